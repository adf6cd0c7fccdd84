/-
  The walk of bailiwicklaw27.made.
-/
import Derived.Test.YtnhnofiimidagaaJBegins
import Derived.Lib.MinMax
namespace Go.Proofs.Ytnhnofiimidagaa
open Go.RowKit

theorem Try.infoInt : (Try.prog.info? 3).map (fun i => (i.zero, i.size, i.bytes)) = some (some (.int .i64 0), 1, 8) := by kernel_rfl

/-- the cells of numbers -/
def natsV (l : List Nat) : List Value := l.map fun (n : Nat) => .int .i64 (n : Int)
theorem natsV_append (l m : List Nat) : natsV (l ++ m) = natsV l ++ natsV m := by simp [natsV]
theorem natsV_len (l : List Nat) : (natsV l).length = l.length := by simp [natsV]
/-- where the records end, and how many picks are told there -/
def endsL (pg : Int) (ps : List (List UInt8)) (rs : List (List UInt8)) : List Nat := (List.range (rs.length + 1)).map (endAt pg ps rs)
def toldL (rs : List (List UInt8)) : List Nat := (List.range (rs.length + 1)).map fun k => (rs.take k).flatten.length
theorem endsL_snoc (pg : Int) (ps : List (List UInt8)) (rs : List (List UInt8)) (p : List UInt8) : endsL pg ps (rs ++ [p]) = endsL pg ps rs ++ [(jrn pg ps (rs ++ [p])).length] := by
  unfold endsL
  rw [List.length_append, List.length_singleton, List.range_succ, List.map_append]
  congr 1
  · apply List.map_congr_left
    intro k hk
    rw [List.mem_range] at hk
    unfold endAt
    rw [List.take_append_of_le_length (by omega)]
  · rw [List.map_singleton]
    unfold endAt
    rw [List.take_of_length_le (by rw [List.length_append, List.length_singleton]; exact Nat.le_refl _)]
theorem toldL_snoc (rs : List (List UInt8)) (p : List UInt8) : toldL (rs ++ [p]) = toldL rs ++ [(rs ++ [p]).flatten.length] := by
  unfold toldL
  rw [List.length_append, List.length_singleton, List.range_succ, List.map_append]
  congr 1
  · apply List.map_congr_left
    intro k hk
    rw [List.mem_range] at hk
    rw [List.take_append_of_le_length (by omega)]
  · rw [List.map_singleton, List.take_of_length_le (by rw [List.length_append, List.length_singleton]; exact Nat.le_refl _)]
theorem endsL_len (pg : Int) (ps : List (List UInt8)) (rs : List (List UInt8)) : (endsL pg ps rs).length = rs.length + 1 := by simp [endsL]
theorem toldL_len (rs : List (List UInt8)) : (toldL rs).length = rs.length + 1 := by simp [toldL]
theorem flat_snoc (rs : List (List UInt8)) (p : List UInt8) : (rs ++ [p]).flatten = rs.flatten ++ p := by simp
theorem jrn_len (pg : Int) (ps : List (List UInt8)) : ∀ rs : List (List UInt8), ∀ k, k ≤ rs.length → (jrn pg ps (rs.take k)).length = (bgB pg ps).length + 5 * k + (rs.take k).flatten.length
  | rs, 0, _ => by
    rw [List.take_zero]
    simp [jrn]
  | rs, k + 1, hk => by
    have hp : rs[k]? = some rs[k] := List.getElem?_eq_getElem (by omega)
    rw [take_snoc hp, jrn_snoc, List.length_append, recB_len, jrn_len pg ps rs k (by omega), flat_snoc, List.length_append]
    omega
theorem flat_ge : ∀ rs : List (List UInt8), (∀ p ∈ rs, 1 ≤ p.length ∧ p.length ≤ 200) → rs.length ≤ rs.flatten.length
  | [], _ => by simp
  | p :: rs, h => by
    have h1 := (h p (by simp)).1
    have h2 := flat_ge rs (fun q hq => h q (by simp [hq]))
    rw [List.flatten_cons, List.length_append, List.length_cons]
    omega
theorem jrn_le {pg : Int} {ps : List (List UInt8)} {rs : List (List UInt8)} (hm : mayS pg ps [] = true) (h : ∀ p ∈ rs, 1 ≤ p.length ∧ p.length ≤ 200) (hl : rs.flatten.length ≤ 4000) : (jrn pg ps rs).length ≤ 30000 := by
  have h1 := jrn_len pg ps rs rs.length (Nat.le_refl _)
  rw [List.take_length] at h1
  have h2 := flat_ge rs h
  have h3 := bgB_len (pg := pg) (ps := ps) rfl
  have h4 := may_bytes hm
  simp only [List.length_nil] at h4
  omega

/-- what holds between rounds -/
structure MadeI (pg : Int) (ps : List (List UInt8)) (pk : List UInt8) (A : Option Addr) (n c : Nat) (w : World) (rs : List (List UInt8)) (Ae : Option Addr) (ce : Nat) (At : Option Addr) (ct : Nat) (W : World) : Prop where
  lens : ∀ p ∈ rs, 1 ≤ p.length ∧ p.length ≤ 200
  flat : rs.flatten = pk.take rs.flatten.length
  le : rs.flatten.length ≤ pk.length
  ends : W.ownsRow (w.heap.size + 1) 3 1 (.slice Ae (rs.length + 1) ce) (rs.length + 1) (natsV (endsL pg ps rs))
  told : W.ownsRow (w.heap.size + 1) 3 1 (.slice At (rs.length + 1) ct) (rs.length + 1) (natsV (toldL rs))
  apart : (Value.slice Ae (rs.length + 1) ce).ownBlock ≠ (Value.slice At (rs.length + 1) ct).ownBlock
  some1 : (Value.slice Ae (rs.length + 1) ce).ownBlock ≠ none
  some2 : (Value.slice At (rs.length + 1) ct).ownBlock ≠ none
  box : Bx W w.heap.size #[.int .i64 pg, .slice A n c, .string (S pk)]
  below : Below w.heap.size w W

theorem own_one (w : World) (base : Nat) (u : Value) (g : Nat) (hg : g = w.heap.size) (hb : base ≤ w.heap.size) (e : TypeId) : (w.alloc (.cells #[u] e)).ownsRow base e 1 (.slice (some ⟨g, 0, none⟩) 1 1) 1 [u] := by
  subst hg
  exact ⟨rfl, .inr ⟨w.heap.size, 1, #[u], rfl, hb, heap_alloc_new w _, Nat.le_refl _, by unfold maxLen; omega, rfl, rfl⟩⟩
theorem own_some {w : World} {base : Nat} {e : TypeId} {size n c : Nat} {A : Option Addr} {xs : List Value} (h : w.ownsRow base e size (.slice A (n + 1) c) (n + 1) xs) : (Value.slice A (n + 1) c).ownBlock ≠ none := by
  rcases h.2 with ⟨_, h0⟩ | ⟨g, cap, cur, hv, _⟩
  · omega
  · injection hv with hA
    rw [hA]
    simp [Value.ownBlock]

theorem take_drop_add {α : Type} (l : List α) (a N : Nat) : l.take a ++ (l.take (a + N)).drop a = l.take (a + N) := by
  have h := List.take_append_drop a (l.take (a + N))
  rw [List.take_take, Nat.min_eq_left (by omega)] at h
  exact h

set_option maxRecDepth 100000 in
set_option maxHeartbeats 8000000 in
theorem made_any (pg : Int) (ps : List (List UInt8)) (pk cl : List UInt8) (A A2 : Option Addr) (n c m c2 : Nat) (w : World) (hr : Rd w w.heap.size 1 A n (ps.map strV)) (hr2 : Rd w w.heap.size 1 A2 m (cl.map byteV)) (hm2 : m ≤ 140737488355328)
    (hmay : mayS pg ps pk = true) :
    Calls Try.prog 41 #[rscrV pg A n c pk, .slice A2 m c2] w fun e w' => ∃ rs Ae ce At ct, e = .returned (.tuple #[.string (S (jrn pg ps rs)), .slice Ae (rs.length + 1) ce, .slice At (rs.length + 1) ct, .bool true]) ∧
      RsOk rs ∧ rs.flatten = pk ∧ Rd w' w'.heap.size 1 Ae (rs.length + 1) (natsV (endsL pg ps rs)) ∧ Rd w' w'.heap.size 1 At (rs.length + 1) (natsV (toldL rs)) ∧ Below w.heap.size w w' := by
  have hln := hr.lenOne
  have hlc := hr2.lenOne
  have hm0 := may_nopk hmay
  obtain ⟨_, ⟨_, g4⟩, g5, hps, hpk⟩ := mayS_iff hmay
  have hle : ∀ x ∈ ps, x.length ≤ 1000000 := fun x hx => by have := decOk_len (hps x hx); omega
  have hb0 : Below w.heap.size w (w.alloc (.cells #[.int .i64 pg, .slice A n c, .string (S pk)] 44)) := (Below.refl _ _).alloc (Nat.le_refl _) _
  have hbx0 := Bx.new w #[.int .i64 pg, .slice A n c, .string (S pk)] 44 w.heap.size rfl
  have hr0 := hr.to hb0
  have ca0 := hbx0.cell 0
  have cb0 := hbx0.cell 1
  have cc0 := hbx0.cell 2
  have he1 : bgS pg ps = jrn pg ps [] := by unfold bgS; rw [hm0]; rfl
  have he2 : scE pg ps [] = 0 := by unfold scE; rw [hm0]; rfl
  have HE1 := Lib.hid he1
  have HE2 := Lib.hid he2
  have HM0 := Lib.hid hm0
  have HLE := hide hle
  have HPK := hide hpk
  have HLC := Lib.hid hlc
  have h8 : n ≤ 8 := by omega
  obtain ⟨i0, hi, hz0, hz1, hz2⟩ := info_parts Try.infoInt
  have hjl : (jrn pg ps []).length ≤ 30000 := jrn_le hm0 (by simp) (by simp)
  have hej : endsL pg ps [] = [(jrn pg ps []).length] := rfl
  have htj : toldL [] = [0] := rfl
  have HEJ := Lib.hid hej
  have HTJ := Lib.hid htj
  simp only [rscrV]
  clear hr hle he1 he2 hm0 hps hpk hlc hej htj hmay hln g4
  go_enter Try.func41, Try.ntmps41
  go_wp2_with fail
  refine (sof_any pg pk A n c _ (by omega)).mono ?_
  rintro e w2 ⟨Ao1, co1, rfl, hoo1, hc⟩
  have hbx2 := hbx0.to hc
  have hr3 := hr0.to hc
  have hb2 := bt hb0 hc
  clear hoo1 hbx0 hr0 hb0 hc ca0 cb0 cc0
  go_wp2_with fail
  refine (begin_any pg ps A Ao1 n c pk.length co1 w2 hr3 HLE.out (by omega)).mono ?_
  rintro e w3 ⟨rfl, hc⟩
  rw [HE1.out, HE2.out]
  have hbx3 := hbx2.to hc
  have hb3 := bt hb2 hc
  have hsz3 : w.heap.size + 1 ≤ w3.heap.size := by have := hbx3.lt; omega
  clear hbx2 hb2 hc hr3
  go_wp2
  have hA0 : MadeI pg ps pk A n c w [] (some ⟨w3.heap.size, 0, none⟩) 1 (some ⟨w3.heap.size + 1, 0, none⟩) 1 ((w3.alloc (.cells #[.int .i64 (jrn pg ps []).length] 3)).alloc (.cells #[.int .i64 0] 3)) := by
    refine ⟨by simp, by simp, by simp, ?_, ?_, by simp [Value.ownBlock], by simp [Value.ownBlock], by simp [Value.ownBlock], (hbx3.alloc _).alloc _, (hb3.alloc hb3.size _).alloc (by have := hb3.size; simp; omega) _⟩
    · rw [HEJ.out]
      exact (own_one w3 _ _ _ rfl hsz3 _).alloc _
    · rw [HTJ.out]
      exact own_one (w3.alloc (.cells #[.int .i64 (jrn pg ps []).length] 3)) _ _ (w3.heap.size + 1) (by simp) (by simp; omega) _
  clear hbx3 hb3 hsz3
  go_loopw [8, 10, 11, 12, 13] (fun j es ts at_ i wr => ∃ (rs : List (List UInt8)) (Ae : Option Addr) (ce : Nat) (At : Option Addr) (ct : Nat), j = .string (S (jrn pg ps rs)) ∧ es = .slice Ae (rs.length + 1) ce ∧ ts = .slice At (rs.length + 1) ct ∧ at_ = .int .i64 rs.flatten.length ∧ i = .int .i64 rs.length ∧ Hid (MadeI pg ps pk A n c w rs Ae ce At ct wr)) (fun _ _ _ at_ _ _ => pk.length - (intOf at_).toNat)
  case atStart => exact ⟨[], _, _, _, _, rfl, rfl, rfl, rfl, rfl, hA0⟩
  case round =>
    clear hA0
    obtain ⟨rs, Ae, ce, At, ct, rfl, rfl, rfl, rfl, rfl, HI⟩ := hrel
    have hI := HI.out
    have hbx := hI.box
    have hb := hI.below
    have hle := hI.le
    have cs2 := hbx.cell 2
    have hrn := flat_ge rs hI.lens
    obtain ⟨a, ha⟩ : ∃ a, rs.flatten.length = a := ⟨_, rfl⟩
    obtain ⟨r, hrr⟩ : ∃ r, rs.length = r := ⟨_, rfl⟩
    have HA := Lib.hid ha
    have HR := Lib.hid hrr
    rw [ha] at hle hrn
    rw [hrr] at hrn
    rw [ha, hrr]
    clear ha hrr hI
    by_cases hlt : a < pk.length
    · obtain ⟨N0, hN0, hN1, hN2⟩ : ∃ N0 : Nat, N0 = (if r < m then 1 + (cl.getD r 0).toNat % 200 else 200) ∧ 1 ≤ N0 ∧ N0 ≤ 200 := ⟨_, rfl, by split <;> omega, by split <;> omega⟩
      obtain ⟨N, hN, hN3, hN4, hN5⟩ : ∃ N : Nat, N = min N0 (pk.length - a) ∧ 1 ≤ N ∧ N ≤ 200 ∧ a + N ≤ pk.length := ⟨_, rfl, by omega, by omega, by omega⟩
      obtain ⟨p, hp⟩ : ∃ p, (pk.take (a + N)).drop a = p := ⟨_, rfl⟩
      have hpl : p.length = N := by rw [← hp, List.length_drop, List.length_take]; omega
      have hPP : Hid ((pk.take (a + N)).drop a = p) := hp
      obtain ⟨c3, w1, hrun, hb1, hsz1, hown1⟩ := run_bytes (P := Try.prog) wr p _ _ _ Try.underlying9 Try.underlying47 Try.underlying5 (by omega)
      rw [hpl] at hrun hown1
      have hP2 : p.all pickOk = true := by
        rw [List.all_eq_true]
        intro x hx
        rw [← hp] at hx
        exact HPK.out x (List.mem_of_mem_take (List.mem_of_mem_drop hx))
      have hJL := jrn_le HM0.out HI.out.lens (by rw [HA.out]; omega)
      have hIF : rs.flatten.all pickOk = true := by
        rw [List.all_eq_true]
        intro x hx
        rw [HI.out.flat] at hx
        exact HPK.out x (List.mem_of_mem_take hx)
      have hadd := add_ok (pk := p) (readO_jrn HM0.out ⟨HI.out.lens, hIF, by rw [HA.out]; omega⟩) (Nat.le_refl _) (by omega) (by omega) hP2 (by simp only; rw [HA.out]; omega)
      rw [← jrn_snoc] at hadd
      have HADD := hide hadd
      have HPL := Lib.hid hpl
      have hbb := bt hb hb1
      have t1 : ((a : Int) + N).toNat = a + N := by omega
      have hrc := hr2.to hb
      clear hpl hadd hIF hP2
      by_cases hrm : r < m
      · obtain ⟨b, o, x, rfl, hbl, hx, g0⟩ := hrc.one hrm
        have hx' : (cl.getD r 0) = x := by rw [List.getD_eq_getElem?_getD, hx]; rfl
        rw [if_pos hrm, hx'] at hN0
        have hmin : min (1 + (x.toNat : Int) % 200) ((pk.length : Int) - a) = (N : Int) := by omega
        have hxl := x.toNat_lt
        simp only [byteV] at g0
        clear hN0 hN hx hx' hrc hN1 hN2
        go_wp2_with fail
        refine (add_any (jrn pg ps rs) p (some ⟨wr.heap.size, 0, none⟩) N c3 w1 hown1.rd (by omega) (by omega)).mono ?_
        rintro e w2 ⟨rfl, hb2⟩
        rw [HADD.out.2, HADD.out.1]
        obtain ⟨j2, hj2⟩ : ∃ j2, jrn pg ps (rs ++ [p]) = j2 := ⟨_, rfl⟩
        have HJ2 := Lib.hid hj2
        rw [hj2]
        have hj2l : j2.length ≤ 40000 := by rw [← hj2, jrn_snoc, List.length_append, recB_len, HPL.out]; omega
        have hb12 := bt hb1 hb2
        have hE := own_below HI.out.ends hb12 (Nat.le_refl _)
        have hT := own_below HI.out.told hb12 (Nat.le_refl _)
        have hbx2 := HI.out.box.to hb12
        have hbw2 := bt hb hb12
        have hap := HI.out.apart
        rw [HR.out] at hE hT hap
        have hbse : w.heap.size + 1 ≤ w2.heap.size := by have := hbx2.lt; omega
        have hs1 := HI.out.some1
        have hs2 := HI.out.some2
        rw [HR.out] at hs1 hs2
        have HAP := hide hap
        have HS1 := hide hs1
        have HS2 := hide hs2
        clear hj2 hb1 hb2 hrun hap hs1 hs2 hbx hb hr2
        go_wp2_with (at_builtin; refine wpList_append_own_at _ rfl (.tmp 73) (.tmp 76) 72 rfl (w.heap.size + 1) 3 i0 _ 1 8 Try.underlying72 hi hz0 hz1 hz2 rfl (by decide) _ _ _ rfl (hE.alloc _) ⟨w2.heap.size, 0, none⟩ 1 1 [.int .i64 j2.length] rfl rfl ?c1 ?c2 ?c3 ?c4 ?c5 ?_)
        case c1 => exact news_at _ _ _ _ (by simp)
        case c2 => intro u hu; simp at hu; subst hu; rfl
        case c3 => unfold maxLen; omega
        case c4 => omega
        case c5 => simp; omega
        intro v3 w3' hE3 hg3 _ hv3
        have hbx3 : Bx w3' w.heap.size #[.int .i64 pg, .slice A n c, .string (S pk)] := (hbx2.alloc _).grown hg3 (by intro he; have := (hE.lt w.heap.size he.symm).1; omega)
        have hT3 := (hT.alloc (.cells #[.int .i64 j2.length] 3)).kept hg3 (.inr (fun he => unhide HAP he.symm))
        have hbw3 := grown1 hbw2 (own_mono hE (base' := w.heap.size) (by omega)) (by omega) hg3
        have hap3 : v3.ownBlock ≠ (Value.slice At (r + 1) ct).ownBlock := by
          rcases hv3 with h | h
          · rw [h]; exact unhide HAP
          · rw [h]
            intro he
            have := (hT.lt _ he.symm).2
            (try simp at this)
            omega
        have hs3 : v3.ownBlock ≠ none := by
          rcases hv3 with h | h
          · rw [h]; exact unhide HS1
          · rw [h]; simp
        have hbse3 : w.heap.size + 1 ≤ w3'.heap.size := by have := hbx3.lt; omega
        have HAP3 := hide hap3
        have HS3 := hide hs3
        have HV3 := hide hv3
        clear hg3 hv3 hE hT hbx2 hbw2 hap3 hs3 hb12 HAP HS1
        go_wp2_with (at_builtin; refine wpList_append_own_at _ rfl (.tmp 78) (.tmp 80) 72 rfl (w.heap.size + 1) 3 i0 _ 1 8 Try.underlying72 hi hz0 hz1 hz2 rfl (by decide) _ _ _ rfl (hT3.alloc _) ⟨w3'.heap.size, 0, none⟩ 1 1 [.int .i64 ((a : Int) + N)] rfl rfl ?c1 ?c2 ?c3 ?c4 ?c5 ?_)
        case c1 => exact news_at _ _ _ _ (by simp)
        case c2 => intro u hu; simp at hu; subst hu; rfl
        case c3 => unfold maxLen; omega
        case c4 => omega
        case c5 => simp; omega
        intro v4 w4 hT4 hg4 _ hv4
        have hbx4 : Bx w4 w.heap.size #[.int .i64 pg, .slice A n c, .string (S pk)] := (hbx3.alloc _).grown hg4 (by intro he; have := (hT3.lt w.heap.size he.symm).1; omega)
        have hE4 := (hE3.alloc (.cells #[.int .i64 ((a : Int) + N)] 3)).kept hg4 (.inr (unhide HAP3))
        have hbw4 := grown1 hbw3 (own_mono hT3 (base' := w.heap.size) (by omega)) (by omega) hg4
        have hap4 : v3.ownBlock ≠ v4.ownBlock := by
          rcases hv4 with h | h
          · rw [h]; exact unhide HAP3
          · rw [h]
            intro he
            have := (hE3.lt _ he).2
            (try simp at this)
            omega
        have hs4 : v4.ownBlock ≠ none := by
          rcases hv4 with h | h
          · rw [h]; exact unhide HS2
          · rw [h]; simp
        obtain ⟨Ae4, ce4, rfl⟩ := own_shape hE4
        obtain ⟨At4, ct4, rfl⟩ := own_shape hT4
        have hfl : (rs ++ [p]).flatten.length = a + N := by rw [flat_snoc, List.length_append, HA.out, HPL.out]
        have hrl : (rs ++ [p]).length = r + 1 := by rw [List.length_append, HR.out]; rfl
        have hNew : Hid (MadeI pg ps pk A n c w (rs ++ [p]) Ae4 ce4 At4 ct4 w4) := by
          refine ⟨?_, ?_, ?_, ?_, ?_, ?_, ?_, ?_, hbx4, hbw4⟩
          · intro q hq
            rcases List.mem_append.1 hq with h | h
            · exact HI.out.lens q h
            · rw [List.mem_singleton.1 h, HPL.out]
              omega
          · rw [hfl, flat_snoc, HI.out.flat, HA.out, ← hPP.out]
            exact take_drop_add pk a N
          · rw [hfl]; omega
          · rw [hrl, endsL_snoc, natsV_append, HJ2.out]
            exact hE4
          · rw [hrl, toldL_snoc, natsV_append, hfl]
            have e : natsV [a + N] = [.int .i64 ((a : Int) + N)] := by simp [natsV]
            rw [e]
            exact hT4
          · rw [hrl]; exact hap4
          · rw [hrl]; exact unhide HS3
          · rw [hrl]; exact hs4
        have HFL := Lib.hid hfl
        have HRL := Lib.hid hrl
        clear hfl hrl hE4 hT4 hap4 hs4 hg4 hv4 HAP3 HS3 HV3 HS2 hT3 hE3
        go_wp2
        go_roundw
        case rel => exact ⟨rs ++ [p], Ae4, ce4, At4, ct4, by rw [HJ2.out], by rw [HRL.out], by rw [HRL.out], by rw [HFL.out]; go_num, by rw [HRL.out]; go_num, hNew⟩
        case measure => simp [intOf]; omega
      · rw [if_neg hrm] at hN0
        have hmin : min (200 : Int) ((pk.length : Int) - a) = (N : Int) := by omega
        clear hN0 hN hrc hN1 hN2
        go_wp2_with fail
        refine (add_any (jrn pg ps rs) p (some ⟨wr.heap.size, 0, none⟩) N c3 w1 hown1.rd (by omega) (by omega)).mono ?_
        rintro e w2 ⟨rfl, hb2⟩
        rw [HADD.out.2, HADD.out.1]
        obtain ⟨j2, hj2⟩ : ∃ j2, jrn pg ps (rs ++ [p]) = j2 := ⟨_, rfl⟩
        have HJ2 := Lib.hid hj2
        rw [hj2]
        have hj2l : j2.length ≤ 40000 := by rw [← hj2, jrn_snoc, List.length_append, recB_len, HPL.out]; omega
        have hb12 := bt hb1 hb2
        have hE := own_below HI.out.ends hb12 (Nat.le_refl _)
        have hT := own_below HI.out.told hb12 (Nat.le_refl _)
        have hbx2 := HI.out.box.to hb12
        have hbw2 := bt hb hb12
        have hap := HI.out.apart
        rw [HR.out] at hE hT hap
        have hbse : w.heap.size + 1 ≤ w2.heap.size := by have := hbx2.lt; omega
        have hs1 := HI.out.some1
        have hs2 := HI.out.some2
        rw [HR.out] at hs1 hs2
        have HAP := hide hap
        have HS1 := hide hs1
        have HS2 := hide hs2
        clear hj2 hb1 hb2 hrun hap hs1 hs2 hbx hb hr2
        go_wp2_with (at_builtin; refine wpList_append_own_at _ rfl (.tmp 73) (.tmp 76) 72 rfl (w.heap.size + 1) 3 i0 _ 1 8 Try.underlying72 hi hz0 hz1 hz2 rfl (by decide) _ _ _ rfl (hE.alloc _) ⟨w2.heap.size, 0, none⟩ 1 1 [.int .i64 j2.length] rfl rfl ?c1 ?c2 ?c3 ?c4 ?c5 ?_)
        case c1 => exact news_at _ _ _ _ (by simp)
        case c2 => intro u hu; simp at hu; subst hu; rfl
        case c3 => unfold maxLen; omega
        case c4 => omega
        case c5 => simp; omega
        intro v3 w3' hE3 hg3 _ hv3
        have hbx3 : Bx w3' w.heap.size #[.int .i64 pg, .slice A n c, .string (S pk)] := (hbx2.alloc _).grown hg3 (by intro he; have := (hE.lt w.heap.size he.symm).1; omega)
        have hT3 := (hT.alloc (.cells #[.int .i64 j2.length] 3)).kept hg3 (.inr (fun he => unhide HAP he.symm))
        have hbw3 := grown1 hbw2 (own_mono hE (base' := w.heap.size) (by omega)) (by omega) hg3
        have hap3 : v3.ownBlock ≠ (Value.slice At (r + 1) ct).ownBlock := by
          rcases hv3 with h | h
          · rw [h]; exact unhide HAP
          · rw [h]
            intro he
            have := (hT.lt _ he.symm).2
            (try simp at this)
            omega
        have hs3 : v3.ownBlock ≠ none := by
          rcases hv3 with h | h
          · rw [h]; exact unhide HS1
          · rw [h]; simp
        have hbse3 : w.heap.size + 1 ≤ w3'.heap.size := by have := hbx3.lt; omega
        have HAP3 := hide hap3
        have HS3 := hide hs3
        have HV3 := hide hv3
        clear hg3 hv3 hE hT hbx2 hbw2 hap3 hs3 hb12 HAP HS1
        go_wp2_with (at_builtin; refine wpList_append_own_at _ rfl (.tmp 78) (.tmp 80) 72 rfl (w.heap.size + 1) 3 i0 _ 1 8 Try.underlying72 hi hz0 hz1 hz2 rfl (by decide) _ _ _ rfl (hT3.alloc _) ⟨w3'.heap.size, 0, none⟩ 1 1 [.int .i64 ((a : Int) + N)] rfl rfl ?c1 ?c2 ?c3 ?c4 ?c5 ?_)
        case c1 => exact news_at _ _ _ _ (by simp)
        case c2 => intro u hu; simp at hu; subst hu; rfl
        case c3 => unfold maxLen; omega
        case c4 => omega
        case c5 => simp; omega
        intro v4 w4 hT4 hg4 _ hv4
        have hbx4 : Bx w4 w.heap.size #[.int .i64 pg, .slice A n c, .string (S pk)] := (hbx3.alloc _).grown hg4 (by intro he; have := (hT3.lt w.heap.size he.symm).1; omega)
        have hE4 := (hE3.alloc (.cells #[.int .i64 ((a : Int) + N)] 3)).kept hg4 (.inr (unhide HAP3))
        have hbw4 := grown1 hbw3 (own_mono hT3 (base' := w.heap.size) (by omega)) (by omega) hg4
        have hap4 : v3.ownBlock ≠ v4.ownBlock := by
          rcases hv4 with h | h
          · rw [h]; exact unhide HAP3
          · rw [h]
            intro he
            have := (hE3.lt _ he).2
            (try simp at this)
            omega
        have hs4 : v4.ownBlock ≠ none := by
          rcases hv4 with h | h
          · rw [h]; exact unhide HS2
          · rw [h]; simp
        obtain ⟨Ae4, ce4, rfl⟩ := own_shape hE4
        obtain ⟨At4, ct4, rfl⟩ := own_shape hT4
        have hfl : (rs ++ [p]).flatten.length = a + N := by rw [flat_snoc, List.length_append, HA.out, HPL.out]
        have hrl : (rs ++ [p]).length = r + 1 := by rw [List.length_append, HR.out]; rfl
        have hNew : Hid (MadeI pg ps pk A n c w (rs ++ [p]) Ae4 ce4 At4 ct4 w4) := by
          refine ⟨?_, ?_, ?_, ?_, ?_, ?_, ?_, ?_, hbx4, hbw4⟩
          · intro q hq
            rcases List.mem_append.1 hq with h | h
            · exact HI.out.lens q h
            · rw [List.mem_singleton.1 h, HPL.out]
              omega
          · rw [hfl, flat_snoc, HI.out.flat, HA.out, ← hPP.out]
            exact take_drop_add pk a N
          · rw [hfl]; omega
          · rw [hrl, endsL_snoc, natsV_append, HJ2.out]
            exact hE4
          · rw [hrl, toldL_snoc, natsV_append, hfl]
            have e : natsV [a + N] = [.int .i64 ((a : Int) + N)] := by simp [natsV]
            rw [e]
            exact hT4
          · rw [hrl]; exact hap4
          · rw [hrl]; exact unhide HS3
          · rw [hrl]; exact hs4
        have HFL := Lib.hid hfl
        have HRL := Lib.hid hrl
        clear hfl hrl hE4 hT4 hap4 hs4 hg4 hv4 HAP3 HS3 HV3 HS2 hT3 hE3
        go_wp2
        go_roundw
        case rel => exact ⟨rs ++ [p], Ae4, ce4, At4, ct4, by rw [HJ2.out], by rw [HRL.out], by rw [HRL.out], by rw [HFL.out]; go_num, by rw [HRL.out]; go_num, hNew⟩
        case measure => simp [intOf]; omega
    · have hfin : a = pk.length := by omega
      have hI := HI.out
      have hrf : rs.flatten = pk := by
        rw [hI.flat, HA.out, hfin, List.take_length]
      have hok : RsOk rs := ⟨hI.lens, by rw [hrf, List.all_eq_true]; exact HPK.out, by rw [hrf]; omega⟩
      have hE := Rd.of_own hI.ends
      have hT := Rd.of_own hI.told
      rw [HR.out] at hE hT
      have HRF := Lib.hid hrf
      have HOK := hide hok
      clear hrf hok hI
      go_wp2
      refine bodyPost_ret (v := .tuple #[.string (S (jrn pg ps rs)), .slice Ae (r + 1) ce, .slice At (r + 1) ct, .bool true]) (by simp [results, Try.results41, go_sem, *]) rfl ?_
      exact ⟨rs, Ae, ce, At, ct, by rw [HR.out], unhide HOK, HRF.out, by rw [HR.out]; exact hE, by rw [HR.out]; exact hT, hb⟩
end Go.Proofs.Ytnhnofiimidagaa
