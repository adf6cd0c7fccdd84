/-
  The walk of flow.Trim.
-/
import Derived.Test.YtmiagijgecgfoaaFRules
namespace Go.Proofs.Ytmiagijgecgfoaa
open Go.RowKit

/-- how many places before this one -/
def numB (b : Nat → Bool) : Nat → Nat
  | 0 => 0
  | k + 1 => numB b k + if b k then 1 else 0
theorem numB_yes {b : Nat → Bool} {k : Nat} (h : b k = true) : numB b (k + 1) = numB b k + 1 := by
  show numB b k + (if b k = true then 1 else 0) = _
  rw [if_pos h]
theorem numB_no {b : Nat → Bool} {k : Nat} (h : b k = false) : numB b (k + 1) = numB b k := by
  show numB b k + (if b k = true then 1 else 0) = _
  rw [if_neg (by simp [h]), Nat.add_zero]
theorem numB_le (b : Nat → Bool) : ∀ k, numB b k ≤ k
  | 0 => Nat.le_refl _
  | k + 1 => by
    have := numB_le b k
    show numB b k + (if b k = true then 1 else 0) ≤ _
    split <;> omega
/-- an instruction of the trimmed program -/
def trimX (b : Nat → Bool) (x : Ins) : Ins := if x.op = 5 ∨ x.op = 6 then ⟨x.op, x.a, x.b, x.c, numB b x.n.toNat⟩ else x
/-- the trimmed program's beginning -/
def trimK (l : List Ins) (b : Nat → Bool) : Nat → List Ins
  | 0 => []
  | k + 1 => trimK l b k ++ (match l[k]? with | some x => if b k then [trimX b x] else [] | none => [])
theorem trimK_yes {l : List Ins} {b : Nat → Bool} {k : Nat} {x : Ins} (hx : l[k]? = some x) (h : b k = true) : trimK l b (k + 1) = trimK l b k ++ [trimX b x] := by
  show trimK l b k ++ (match l[k]? with | some x => if b k = true then [trimX b x] else [] | none => []) = _
  rw [hx]
  simp only [h, if_true]
theorem trimK_no {l : List Ins} {b : Nat → Bool} {k : Nat} (h : b k = false) : trimK l b (k + 1) = trimK l b k := by
  show trimK l b k ++ (match l[k]? with | some x => if b k = true then [trimX b x] else [] | none => []) = _
  cases l[k]? <;> simp [h]
theorem trimK_len (l : List Ins) (b : Nat → Bool) : ∀ k, (trimK l b k).length ≤ k
  | 0 => Nat.le_refl _
  | k + 1 => by
    have := trimK_len l b k
    show (trimK l b k ++ _).length ≤ _
    rw [List.length_append]
    split
    · split <;> simp <;> omega
    · simp; omega

/-- numbers as cells -/
def nC (f : Nat → Nat) : Array Value := ((List.range 65).map fun i => Value.int .i64 (f i)).toArray
theorem nC_size (f : Nat → Nat) : (nC f).size = 65 := by simp [nC]
theorem nC_get (f : Nat → Nat) {i : Nat} (h : i < 65) : (nC f)[i]? = some (.int .i64 (f i)) := by
  unfold nC
  rw [List.getElem?_toArray, List.getElem?_map, List.getElem?_range h]
  rfl
def updN (f : Nat → Nat) (a v : Nat) : Nat → Nat := fun i => if i = a then v else f i
theorem nC_set (f : Nat → Nat) (a v : Nat) : (nC f).setIfInBounds a (.int .i64 v) = nC (updN f a v) := by
  apply Array.ext_getElem?
  intro i
  rw [Array.getElem?_setIfInBounds]
  by_cases hi : i < 65
  · rw [nC_get _ hi]
    by_cases e : a = i
    · subst e
      rw [if_pos rfl, nC_size, if_pos hi, nC_get _ hi]
      simp [updN]
    · rw [if_neg e, nC_get _ hi]
      simp [updN, Ne.symm e]
  · have h1 : (nC f)[i]? = none := Array.getElem?_eq_none (by rw [nC_size]; omega)
    have h2 : (nC (updN f a v))[i]? = none := Array.getElem?_eq_none (by rw [nC_size]; omega)
    rw [h1, h2, nC_size]
    split
    · rw [if_neg (by omega)]
    · rfl
theorem zeros107 : Try.zeroCells107 = nC (fun _ => 0) := by kernel_rfl
/-- the numbers so far -/
def numF (b : Nat → Bool) (k : Nat) : Nat → Nat := fun i => if i < k then numB b i else 0
theorem numF_zero (b : Nat → Bool) : numF b 0 = fun _ => 0 := by funext i; simp [numF]
theorem numF_succ (b : Nat → Bool) (k : Nat) : updN (numF b k) k (numB b k) = numF b (k + 1) := by
  funext i
  unfold updN numF
  by_cases e : i = k
  · subst e; simp
  · rw [if_neg e]
    by_cases h : i < k
    · rw [if_pos h, if_pos (by omega)]
    · rw [if_neg h, if_neg (by omega)]

section
variable {l : List Ins} {A : Option Addr} {n c : Nat} {w : World}

/-- what holds in the first loop -/
structure TrimI (w1 : World) (B g6 g7 : Nat) (b : Nat → Bool) (f : Nat → Nat) (wr : World) : Prop where
  m : Bx wr g6 (mC b)
  f : Bx wr g7 (nC f)
  b : Below B w1 wr

def TrimOut (l : List Ins) (b : Nat → Bool) (n : Nat) (w : World) (e : Ending) (w' : World) : Prop :=
  ∃ A' c', e = .returned (.tuple #[.slice A' (trimK l b n).length c', .int .i64 0]) ∧ w'.ownsRow w.heap.size 85 5 (.slice A' (trimK l b n).length c') (trimK l b n).length ((trimK l b n).flatMap Ins.cu) ∧ Below w.heap.size w w'

set_option maxRecDepth 100000 in
set_option maxHeartbeats 8000000 in
theorem Trim_yes (hp : Prog l) (hr : Rd w w.heap.size 5 A n (l.flatMap Ins.cu)) {b : Nat → Bool} (hb : IsReached l b) :
    Calls Try.prog 31 #[.slice A n c] w (TrimOut l b n w) := by
  have hln := hr.lenU
  have hle := hp.le
  have hn64 : n ≤ 64 := by omega
  have hO := of_yes (c := c) hp hr
  have HO := hide hO
  have HR := hide hr
  have HT := hide (fun W h => reached_any (w := W) (A := A) (n := n) (c := c) hp h hb)
  have HP := hide hp
  have HLN := Lib.hid hln
  clear hO hr hb hln hp
  go_enter Try.func31, Try.ntmps31
  go_wp2_with fail
  refine (unhide HO).mono ?_
  rintro e w1 ⟨rfl, hb1⟩
  have hr1 := (unhide HR).to hb1
  go_wp2_with fail
  refine (unhide HT _ hr1).mono ?_
  rintro e w2 ⟨rfl, hb2⟩
  have hb3 := bt hb1 hb2
  have hr2 := hr1.to hb2
  unfold placesV
  clear HO hb1 hb2 hr1
  go_upto_region 5 with (refine (Bx.new _ _ _ _ rfl).listStore (cs' := mC b) rfl _ _ rfl rfl rfl (sizePl b) (by rw [zeros115, mC_size, mC_size]) (mC_one b) ?_)
  refine nameW ?_
  intro W3 hW3
  have hb4 : Below w2.heap.size w2 W3 := by rw [hW3]; exact below_setRow ((Below.refl _ _).alloc (Nat.le_refl _) _) (Nat.le_refl _) _
  have hm3 : Bx W3 w2.heap.size (mC b) := by rw [hW3]; exact (Bx.new _ _ _ _ rfl).row _
  clear hW3
  go_upto_region 6 with fail
  refine nameW ?_
  intro W4 hW4
  rw [zeros107] at hW4
  have hb5 : Below W3.heap.size W3 W4 := by rw [hW4]; exact (Below.refl _ _).alloc (Nat.le_refl _) _
  have hf4 : Bx W4 W3.heap.size (nC (fun _ => 0)) := by rw [hW4]; exact Bx.new _ _ _ _ rfl
  have hg67 : w2.heap.size < W3.heap.size := hm3.lt
  have hI : TrimI w2 w2.heap.size w2.heap.size W3.heap.size b (numF b 0) W4 := ⟨hm3.to hb5, by rw [numF_zero]; exact hf4, bt hb4 hb5⟩
  have HI := hide hI
  have HB3 := hide hb3
  have HR2 := hide (fun (W : World) (h : Below w2.heap.size w2 W) => (hr2.below h).mono h.size)
  clear hW4 hb4 hb5 hm3 hf4 hI hb3 hr2 HR
  go_wp2
  go_loopw [8, 25] (fun q i wr => ∃ k : Nat, k ≤ n ∧ i = .int .i64 k ∧ q = .int .i64 (numB b k) ∧ TrimI w2 w2.heap.size w2.heap.size W3.heap.size b (numF b k) wr) (fun _ i _ => n - (intOf i).toNat)
  case atStart => exact ⟨0, Nat.zero_le _, rfl, rfl, unhide HI⟩
  case round =>
    clear HI
    obtain ⟨k, hk, rfl, rfl, hI⟩ := hrel
    by_cases hlt : k < n
    · have f0 := (hI.f.cell k).trans (nC_get _ (show k < 65 by omega))
      have f1 := hI.f.frozen k
      have hk65 : (k : Int) < 65 := by omega
      have hnk := numB_le b k
      have hf2 := hI.f.set_ k (.int .i64 (numB b k))
      rw [nC_set, numF_succ] at hf2
      have hm2 := hI.m.far (p := ⟨W3.heap.size, k, none⟩) (by simp; omega) (.int .i64 (numB b k))
      have hb2 := hI.b.setCell (p := ⟨W3.heap.size, k, none⟩) (by simp; omega) (.int .i64 (numB b k))
      have HI2 := hide (⟨hm2, hf2, hb2⟩ : TrimI w2 w2.heap.size w2.heap.size W3.heap.size b (numF b (k + 1)) _)
      clear hI hf2 hm2 hb2
      go_upto_region 11 with fail
      refine nameW ?_
      intro W5 hW5
      rw [← hW5] at HI2
      have m0 := ((unhide HI2).m.cell k).trans (mC_get _ (show k < 65 by omega))
      clear hW5 f0 f1
      cases hbk : b k with
      | true =>
        have hs := Lib.hid (numB_yes hbk)
        rw [hbk] at m0
        clear hbk
        go_wp2
        go_roundw
        case rel => exact ⟨k + 1, by omega, by go_num, by rw [hs.out]; go_num, unhide HI2⟩
        case measure => simp [intOf]; omega
      | false =>
        have hs := Lib.hid (numB_no hbk)
        rw [hbk] at m0
        clear hbk
        go_wp2
        go_roundw
        case rel => exact ⟨k + 1, by omega, by go_num, by rw [hs.out], unhide HI2⟩
        case measure => simp [intOf]; omega
    · obtain rfl : n = k := by omega
      obtain ⟨wb, rfl⟩ : ∃ x, x = wr := ⟨_, rfl⟩
      obtain ⟨i0, hi, hz0, hz1, hz2⟩ := info_parts Try.infoCI
      have HI2 := hide hI
      have hlo6 : w2.heap.size < wb.heap.size := hI.m.lt
      have hlo7 : W3.heap.size < wb.heap.size := hI.f.lt
      clear hI
      go_wp2
      go_loopw [10, 39] (fun v i wr => ∃ k : Nat, k ≤ n ∧ i = .int .i64 k ∧ wr.ownsRow wb.heap.size 85 5 v (trimK l b k).length ((trimK l b k).flatMap Ins.cu) ∧ Below wb.heap.size wb wr) (fun _ i _ => n - (intOf i).toNat)
      case atStart => exact ⟨0, Nat.zero_le _, rfl, World.ownsRow_nil _ _ _ _, Below.refl _ _⟩
      case round =>
        obtain ⟨k, hk, rfl, hown, hb⟩ := hrel
        by_cases hlt : k < n
        · have hI := (unhide HI2)
          have hbw := hI.b.trans (hb.mono (show w2.heap.size ≤ wb.heap.size by omega))
          obtain ⟨bb, o, x, rfl, hbl, hx, g0, g1, g2, g3, g4⟩ := ((unhide HR2) wr hbw).insU hlt
          obtain ⟨xo, ka, kb, kc, kn, rfl, ha, hbb, hc, hkn, ho, hj⟩ := HP.out.get hx
          simp only at g0 g1 g2 g3 g4
          have hk65 : (k : Int) < 65 := by omega
          have hln := HLN.out
          have hsz := hb.size
          have htl := trimK_len l b k
          have HI3 := hide hI
          clear hI
          go_upto_region 18 with fail
          refine nameW ?_
          intro W5 hW5
          have hbz : Below wr.heap.size wr W5 := by rw [hW5]; exact (Below.refl _ _).alloc (Nat.le_refl _) _
          have hx5 : Bx W5 wr.heap.size #[.int .u8 xo, .int .u8 ka, .int .u8 kb, .int .u8 kc, .int .u16 kn] := by rw [hW5]; exact Bx.new _ _ _ _ rfl
          have hown5 := own_below hown hbz (Nat.le_refl _)
          have hb5 := hb.trans (hbz.mono hsz)
          have hsz5 := hb5.size
          have hne : u10.ownBlock ≠ some wr.heap.size := fun e => by have := (hown.lt _ e).2; omega
          have m0 := (((unhide HI3).m.to hb5).cell k).trans (mC_get b (show k < 65 by omega))
          have hlz : wr.heap.size < W5.heap.size := hx5.lt
          clear hW5 g0 g1 g2 g3 g4 hbw hown hb hbz
          cases hbk : b k with
          | false =>
            have hs := Lib.hid (trimK_no (l := l) hbk)
            rw [hbk] at m0
            clear hx hbk hj hln hx5
            go_wp2
            go_roundw
            case rel => exact ⟨k + 1, by omega, by go_num, by rw [hs.out]; exact hown5, hb5⟩
            case measure => simp [intOf]; omega
          | true =>
            have hs := Lib.hid (trimK_yes hx hbk)
            rw [hbk] at m0
            have hnk := numB_le b kn
            by_cases hjmp : xo = 5 ∨ xo = 6
            · have hkl : kn < 65 := by have := hj hjmp; omega
              have hkl2 : kn < n := by have := hj hjmp; omega
              have f0 := (((unhide HI3).f.to hb5).cell kn).trans (nC_get _ hkl)
              have hff : numF b n kn = numB b kn := by unfold numF; rw [if_pos hkl2]
              rw [hff] at f0
              have hw : IntKind.u16.wrap (numB b kn : Int) = numB b kn := IntWalk.u16_in _ (by omega)
              have htx : trimX b ⟨xo, ka, kb, kc, kn⟩ = ⟨xo, ka, kb, kc, numB b kn⟩ := by
                unfold trimX
                rw [if_pos (by rcases hjmp with rfl | rfl; exact .inl rfl; exact .inr rfl)]
                simp
              have HTX := Lib.hid htx
              have jk : (kn : Int) < 65 := by omega
              clear hx hbk hj hln htx hff
              rcases hjmp with rfl | rfl
              · skip
                have q0 := hx5.cell 0
                have q1 := hx5.cell 1
                have q2 := hx5.cell 2
                have q3 := hx5.cell 3
                have q4 := hx5.cell 4
                have qf := hx5.frozen 4
                go_upto_region 21 with fail
                refine nameW ?_
                intro W6 hW6
                have hown6 := hown5.kept (setCell_grown W5 wr.heap.size 4 (.int .u16 (numB b kn))) (.inr hne)
                have hx6 := hx5.set_ 4 (.int .u16 (numB b kn))
                have hb6 := hb5.setCell (p := ⟨wr.heap.size, 4, none⟩) hsz (.int .u16 (numB b kn))
                rw [← hW6] at hown6 hx6 hb6
                have hsz6 := hb6.size
                clear hW6 hown5 hx5 hb5 q0 q1 q2 q3 q4 qf f0 m0
                have q0 := hx6.cell 0
                have q1 := hx6.cell 1
                have q2 := hx6.cell 2
                have q3 := hx6.cell 3
                have q4 := hx6.cell 4
                go_wp2_with (at_builtin; refine wpList_append_own _ rfl _ _ 24 rfl wb.heap.size 85 i0 _ 5 6 Try.underlying24 hi hz0 hz1 hz2 rfl (by decide) _ _ _ rfl (hown6.alloc _) ⟨W6.heap.size, 0, none⟩ 1 1 (Ins.cu ⟨5, ka, kb, kc, numB b kn⟩) rfl rfl ?c1 ?c2 ?c3 ?c4 ?c5 ?_)
                case c1 => exact news_at _ _ _ _ rfl
                case c2 => intro u hu; simp [Ins.cu] at hu; rcases hu with rfl | rfl | rfl | rfl | rfl <;> rfl
                case c3 => unfold maxLen; omega
                case c4 => omega
                case c5 => simp; omega
                intro v' w4 hown' hgrow _
                have hbq := grown1 hb6 hown6 hsz6 hgrow
                have HTS := HTX.out
                clear hgrow hown6 hb6
                go_wp2
                go_roundw
                case rel =>
                  refine ⟨k + 1, by omega, by go_num, ?_, hbq⟩
                  rw [hs.out, HTS, List.length_append, List.flatMap_append]
                  simpa using hown'
                case measure => simp [intOf]; omega
              · skip
                have q0 := hx5.cell 0
                have q1 := hx5.cell 1
                have q2 := hx5.cell 2
                have q3 := hx5.cell 3
                have q4 := hx5.cell 4
                have qf := hx5.frozen 4
                go_upto_region 21 with fail
                refine nameW ?_
                intro W6 hW6
                have hown6 := hown5.kept (setCell_grown W5 wr.heap.size 4 (.int .u16 (numB b kn))) (.inr hne)
                have hx6 := hx5.set_ 4 (.int .u16 (numB b kn))
                have hb6 := hb5.setCell (p := ⟨wr.heap.size, 4, none⟩) hsz (.int .u16 (numB b kn))
                rw [← hW6] at hown6 hx6 hb6
                have hsz6 := hb6.size
                clear hW6 hown5 hx5 hb5 q0 q1 q2 q3 q4 qf f0 m0
                have q0 := hx6.cell 0
                have q1 := hx6.cell 1
                have q2 := hx6.cell 2
                have q3 := hx6.cell 3
                have q4 := hx6.cell 4
                go_wp2_with (at_builtin; refine wpList_append_own _ rfl _ _ 24 rfl wb.heap.size 85 i0 _ 5 6 Try.underlying24 hi hz0 hz1 hz2 rfl (by decide) _ _ _ rfl (hown6.alloc _) ⟨W6.heap.size, 0, none⟩ 1 1 (Ins.cu ⟨6, ka, kb, kc, numB b kn⟩) rfl rfl ?c1 ?c2 ?c3 ?c4 ?c5 ?_)
                case c1 => exact news_at _ _ _ _ rfl
                case c2 => intro u hu; simp [Ins.cu] at hu; rcases hu with rfl | rfl | rfl | rfl | rfl <;> rfl
                case c3 => unfold maxLen; omega
                case c4 => omega
                case c5 => simp; omega
                intro v' w4 hown' hgrow _
                have hbq := grown1 hb6 hown6 hsz6 hgrow
                have HTS := HTX.out
                clear hgrow hown6 hb6
                go_wp2
                go_roundw
                case rel =>
                  refine ⟨k + 1, by omega, by go_num, ?_, hbq⟩
                  rw [hs.out, HTS, List.length_append, List.flatMap_append]
                  simpa using hown'
                case measure => simp [intOf]; omega
            · have d5 : ((xo : Int) == 5) = false := by simp; omega
              have d6 : ((xo : Int) == 6) = false := by simp; omega
              have p5 : decide ((xo : Int) = 5) = false := decide_eq_false (by omega)
              have p6 : decide ((xo : Int) = 6) = false := decide_eq_false (by omega)
              have htx : trimX b ⟨xo, ka, kb, kc, kn⟩ = ⟨xo, ka, kb, kc, kn⟩ := by
                unfold trimX
                rw [if_neg]
                simp only; omega
              have HTX := Lib.hid htx
              clear hx hbk hj hln htx hjmp
              have q0 := hx5.cell 0
              have q1 := hx5.cell 1
              have q2 := hx5.cell 2
              have q3 := hx5.cell 3
              have q4 := hx5.cell 4
              go_wp2_with (at_builtin; refine wpList_append_own _ rfl _ _ 24 rfl wb.heap.size 85 i0 _ 5 6 Try.underlying24 hi hz0 hz1 hz2 rfl (by decide) _ _ _ rfl (hown5.alloc _) ⟨W5.heap.size, 0, none⟩ 1 1 (Ins.cu ⟨xo, ka, kb, kc, kn⟩) rfl rfl ?c1 ?c2 ?c3 ?c4 ?c5 ?_)
              case c1 => exact news_at _ _ _ _ rfl
              case c2 => intro u hu; simp [Ins.cu] at hu; rcases hu with rfl | rfl | rfl | rfl | rfl <;> rfl
              case c3 => unfold maxLen; omega
              case c4 => omega
              case c5 => simp; omega
              intro v' w4 hown' hgrow _
              have hbq := grown1 hb5 hown5 hsz5 hgrow
              have HTS := HTX.out
              clear hgrow hown5 hb5
              go_wp2
              go_roundw
              case rel =>
                refine ⟨k + 1, by omega, by go_num, ?_, hbq⟩
                rw [hs.out, HTS, List.length_append, List.flatMap_append]
                simpa using hown'
              case measure => simp [intOf]; omega
        · obtain rfl : n = k := by omega
          obtain ⟨A', c', rfl⟩ := own_shape hown
          have HB := hide (((bt (unhide HB3) (unhide HI2).b)).trans (hb.mono (by have := (unhide HB3).size; omega)))
          have HOW := hide (own_mono hown (show w.heap.size ≤ wb.heap.size by have := (unhide HB3).size; omega))
          clear hown hb
          go_wp2
          go_ret2
          exact ⟨A', c', rfl, HOW.out, HB.out⟩
end
end Go.Proofs.Ytmiagijgecgfoaa
