/-
  The walk of bailiwickref24.Ways.
-/
import Derived.Test.YtmiagijgecgfoaaGWaysP
import Derived.Test.YtmiagijgecgfoaaTHeldL
namespace Go.Proofs.Ytmiagijgecgfoaa
open Go.RowKit

/-- what lies there while Ways is done -/
structure WayS (w : World) (M : Nat → Nat → Bool) (wr : World) : Prop where
  r : Bx wr w.heap.size (mW fun _ _ => false)
  m : Bx wr (w.heap.size + 1) (mW M)
  b : Below w.heap.size w wr
theorem WayS.to {w wr w' : World} {M : Nat → Nat → Bool} (h : WayS w M wr) (hb : Below wr.heap.size wr w') : WayS w M w' :=
  ⟨h.r.to hb, h.m.to hb, h.b.trans (hb.mono h.b.size)⟩
theorem WayS.put {w wr : World} {M : Nat → Nat → Bool} (h : WayS w M wr) {i j : Nat} (hj : j < 65) (v : Bool) : WayS w (updM M i j v) (wr.setCell ⟨w.heap.size + 1, i * 65 + j, none⟩ (.bool v)) :=
  ⟨h.r.far (by simp) _, by rw [← mW_set M hj]; exact h.m.set_ _ _, h.b.setCell (by simp) _⟩



section
variable {l : List Ins} {A : Option Addr} {n c : Nat} {w : World} {out : Int}

set_option maxRecDepth 100000 in
set_option maxHeartbeats 4000000 in
theorem ways_any (hp : Prog l) (hr : Rd w w.heap.size 5 A n (l.flatMap Ins.ci)) :
    Calls Try.prog 60 #[.slice A n c, .int .i64 out] w fun e w' => ∃ M, e = .returned (waysV M) ∧ IsWays l out M ∧ Below w.heap.size w w' := by
  have hln := hr.lenI
  have hle := hp.le
  have hnx : ∀ b c, c ∈ nextL l b → c < n + 1 := fun b c h => by have := nextL_le hp h; omega
  have HED := hide (fun (W : World) (h : Below w.heap.size w W) (i j : Int) => edge_any (l := l) (w := W) (A := A) (n := n) (c := c) hp.ok ((hr.below h).mono h.size) (by omega) i j)
  have HNX := hide hnx
  have HLN := Lib.hid hln
  have hn64 : n ≤ 64 := by omega
  clear hr hp hnx hle hln
  go_enter Try.func60, Try.ntmps60
  go_upto_region 2 with fail
  refine nameW ?_
  intro W0 hW0
  have hI : WayS w (fun _ _ => false) W0 := by
    rw [hW0, zeros111]
    exact ⟨(Bx.new _ _ _ _ rfl).alloc _, Bx.new _ _ _ _ (by simp), ((Below.refl _ _).alloc (Nat.le_refl _) _).alloc (by simp) _⟩
  have HI := hide hI
  clear hW0 hI
  go_wp2
  go_loopw [7] (fun ii wr => ∃ (i : Nat) (M : Nat → Nat → Bool), i ≤ n + 1 ∧ ii = .int .i64 i ∧ Fill l out i 0 M ∧ WayS w M wr) (fun ii _ => n + 1 - (intOf ii).toNat)
  case atStart => exact ⟨0, _, by omega, rfl, Fill.zero, unhide HI⟩
  case round =>
    clear HI
    obtain ⟨i, M, hi, rfl, hF, hI⟩ := hrel
    by_cases hlt : i < n + 1
    · have HF := hide hF
      have HI := hide hI
      have i1 : (i : Int) < (n : Int) + 1 := by omega
      clear hF hI
      go_wp2
      obtain ⟨wb, rfl⟩ : ∃ x, x = wr := ⟨_, rfl⟩
      go_loopw [8] (fun jj wr => ∃ (j : Nat) (M : Nat → Nat → Bool), j ≤ n + 1 ∧ jj = .int .i64 j ∧ Fill l out i j M ∧ WayS w M wr) (fun jj _ => n + 1 - (intOf jj).toNat)
      case atStart => exact ⟨0, _, by omega, rfl, unhide HF, unhide HI⟩
      case round =>
        clear HI HF
        obtain ⟨j, M, hj, rfl, hF, hI⟩ := hrel
        by_cases hjt : j < n + 1
        · have j1 : (j : Int) < (n : Int) + 1 := by omega
          have i2 : (i : Int) < 65 := by omega
          have i3 : i < 65 := by omega
          have j2 : (j : Int) < 65 := by omega
          have j3 : j < 65 := by omega
          have hjn : j + 1 ≤ n + 1 := by omega
          obtain ⟨q, hq⟩ : ∃ q, edgeB l i j = q := ⟨_, rfl⟩
          have hED := fun W h => (unhide HED) W h i j
          rw [hq] at hED
          have HQ := hide hED
          rw [edgeB_nat] at hq
          have HF := hide hF
          have hHeld := hI.to ((Below.refl _ _).drew)
          clear hI hED hF
          go_upto_region 9 with fail
          refine wp_region_G 18 (fun W => WayS w M W) (by kernel_rfl) ?_
          simp only [List.size_toArray, List.length_cons, List.length_nil, Nat.zero_add, Nat.reduceAdd]
          refine wpAnyG_takeL (i := 0) (v := ?_) rfl (by kernel_rfl) (fun _ _ _ h => h) (Or.inl ⟨by rfl, ?_⟩) hHeld ?_
          rotate_left
          · intro w' hSw
            skip
            go_simp
            skip
            try with_reducible rfl
          simp only [Act.put, List.setIfInBounds_toArray, List.set_cons_succ, List.set_cons_zero]
          refine wpAnyG_takeL (i := 1) (v := ?_) rfl (by kernel_rfl) (fun _ _ _ h => h) (Or.inl ⟨by rfl, ?_⟩) hHeld ?_
          rotate_left
          · intro w' hSw
            skip
            go_simp
            skip
            try with_reducible rfl
          simp only [Act.put, List.setIfInBounds_toArray, List.set_cons_succ, List.set_cons_zero]
          refine wpAnyG_takeL (i := 2) (v := ?_) rfl (by kernel_rfl) (fun _ _ _ h => h) (Or.inl ⟨by rfl, ?_⟩) hHeld ?_
          rotate_left
          · intro w' hSw
            skip
            go_simp
            skip
            try with_reducible rfl
          simp only [Act.put, List.setIfInBounds_toArray, List.set_cons_succ, List.set_cons_zero]
          refine wpAnyG_takeL (i := 3) (v := ?_) rfl (by kernel_rfl) (fun _ _ _ h => h) (Or.inl ⟨by rfl, ?_⟩) hHeld ?_
          rotate_left
          · intro w' hSw
            skip
            go_simp
            skip
            try with_reducible rfl
          simp only [Act.put, List.setIfInBounds_toArray, List.set_cons_succ, List.set_cons_zero]
          refine wpAnyG_takeL (i := 4) (v := ?_) rfl (by kernel_rfl) (fun _ _ _ h => h) (Or.inl ⟨by rfl, ?_⟩) hHeld ?_
          rotate_left
          · intro w' hSw
            skip
            go_simp
            skip
            try with_reducible rfl
          simp only [Act.put, List.setIfInBounds_toArray, List.set_cons_succ, List.set_cons_zero]
          refine wpAnyG_takeL (i := 16) (v := ?_) rfl (by kernel_rfl) (fun _ _ _ h => h) (Or.inl ⟨by rfl, ?_⟩) hHeld ?_
          rotate_left
          · intro w' hSw
            skip
            go_simp
            skip
            try with_reducible rfl
          simp only [Act.put, List.setIfInBounds_toArray, List.set_cons_succ, List.set_cons_zero]
          refine wpAnyG_oneL (i := 5) (by kernel_rfl) rfl (fun K hK => ?_)
          go_simp
          refine (unhide HQ _ hHeld.b).mono ?_
          rintro e w8 ⟨rfl, hbq⟩
          have hHeld := hHeld.to hbq
          refine hK.out _ _ ⟨fun _ => hHeld, ?_⟩
          clear hK K hbq HQ
          cases q
          · have hv : false = true ↔ EdP l out i j := ⟨fun h => Bool.noConfusion h, fun h => absurd h.1 (of_decide_eq_false hq)⟩
            refine wpAnyG_takeL (i := 6) (v := ?_) rfl (by kernel_rfl) (fun _ _ _ h => h) (Or.inl ⟨by rfl, ?_⟩) hHeld ?_
            rotate_left
            · intro w' hSw
              skip
              go_simp
              skip
              try with_reducible rfl
            simp only [Act.put, List.setIfInBounds_toArray, List.set_cons_succ, List.set_cons_zero]
            refine wpAnyG_takeL (i := 7) (v := undef) rfl (by kernel_rfl) (fun _ _ _ h => h) (Or.inr ⟨by rfl, rfl⟩) hHeld ?_
            simp only [Act.put, List.setIfInBounds_toArray, List.set_cons_succ, List.set_cons_zero]
            refine wpAnyG_takeL (i := 8) (v := undef) rfl (by kernel_rfl) (fun _ _ _ h => h) (Or.inr ⟨by rfl, rfl⟩) hHeld ?_
            simp only [Act.put, List.setIfInBounds_toArray, List.set_cons_succ, List.set_cons_zero]
            refine wpAnyG_takeL (i := 9) (v := undef) rfl (by kernel_rfl) (fun _ _ _ h => h) (Or.inr ⟨by rfl, rfl⟩) hHeld ?_
            simp only [Act.put, List.setIfInBounds_toArray, List.set_cons_succ, List.set_cons_zero]
            refine wpAnyG_takeL (i := 10) (v := ?_) rfl (by kernel_rfl) (fun _ _ _ h => h) (Or.inl ⟨by rfl, ?_⟩) hHeld ?_
            rotate_left
            · intro w' hSw
              skip
              go_simp
              simp only [Bool.false_eq_true, ↓reduceIte]
              try with_reducible rfl
            simp only [Act.put, List.setIfInBounds_toArray, List.set_cons_succ, List.set_cons_zero]
            refine wpAnyG_takeL (i := 11) (v := ?_) rfl (by kernel_rfl) (fun _ _ _ h => h) (Or.inl ⟨by rfl, ?_⟩) hHeld ?_
            rotate_left
            · intro w' hSw
              skip
              go_simp
              skip
              try with_reducible rfl
            simp only [Act.put, List.setIfInBounds_toArray, List.set_cons_succ, List.set_cons_zero]
            refine wpAnyG_takeL (i := 12) (v := undef) rfl (by kernel_rfl) (fun _ _ _ h => h) (Or.inr ⟨by rfl, rfl⟩) hHeld ?_
            simp only [Act.put, List.setIfInBounds_toArray, List.set_cons_succ, List.set_cons_zero]
            refine wpAnyG_takeL (i := 13) (v := undef) rfl (by kernel_rfl) (fun _ _ _ h => h) (Or.inr ⟨by rfl, rfl⟩) hHeld ?_
            simp only [Act.put, List.setIfInBounds_toArray, List.set_cons_succ, List.set_cons_zero]
            refine wpAnyG_takeL (i := 14) (v := undef) rfl (by kernel_rfl) (fun _ _ _ h => h) (Or.inr ⟨by rfl, rfl⟩) hHeld ?_
            simp only [Act.put, List.setIfInBounds_toArray, List.set_cons_succ, List.set_cons_zero]
            refine wpAnyG_takeL (i := 15) (v := ?_) rfl (by kernel_rfl) (fun _ _ _ h => h) (Or.inl ⟨by rfl, ?_⟩) hHeld ?_
            rotate_left
            · intro w' hSw
              skip
              go_simp
              simp only [Bool.false_eq_true, ↓reduceIte]
              try with_reducible rfl
            simp only [Act.put, List.setIfInBounds_toArray, List.set_cons_succ, List.set_cons_zero]
            refine wpAnyG_takeL (i := 17) (v := ?_) rfl (by kernel_rfl) (fun _ _ _ h => h) (Or.inl ⟨by rfl, ?_⟩) hHeld ?_
            rotate_left
            · intro w' hSw
              skip
              go_simp
              skip
              try with_reducible rfl
            simp only [Act.put, List.setIfInBounds_toArray, List.set_cons_succ, List.set_cons_zero]
            have hput := hHeld.put (i := i) j3 false
            have c1 : (_ : Option Value) = some (.bool (M i j)) := (hHeld.m.cell (i * 65 + j)).trans (mW_at M i3 j3)
            have c2 := hHeld.m.frozen (i * 65 + j)
            have HP := hide (⟨((unhide HF).put hv), hput⟩ : Fill l _ i (j + 1) _ ∧ WayS w _ _)
            clear hput hv
            refine wpAnyG_oneL (i := 18) (by kernel_rfl) rfl (fun K hK => ?_)
            go_simp
            refine hK.out _ _ ⟨fun h => absurd h (by decide), ?_⟩
            clear hK K
            refine wpAnyG_done (by kernel_rfl) ?_ _
            go_wp2
            go_roundw
            case rel => exact ⟨j + 1, _, hjn, by go_num, HP.out.1, HP.out.2⟩
            case measure => simp [intOf]; omega
          · have hq2 := of_decide_eq_true hq
            by_cases e1 : (i : Int) = out
            · subst e1
              have hv : false = true ↔ EdP l i i j := ⟨fun h => Bool.noConfusion h, fun h => absurd rfl h.2.1⟩
              refine wpAnyG_takeL (i := 6) (v := ?_) rfl (by kernel_rfl) (fun _ _ _ h => h) (Or.inl ⟨by rfl, ?_⟩) hHeld ?_
              rotate_left
              · intro w' hSw
                skip
                go_simp
                skip
                try with_reducible rfl
              simp only [Act.put, List.setIfInBounds_toArray, List.set_cons_succ, List.set_cons_zero]
              refine wpAnyG_takeL (i := 7) (v := ?_) rfl (by kernel_rfl) (fun _ _ _ h => h) (Or.inl ⟨by rfl, ?_⟩) hHeld ?_
              rotate_left
              · intro w' hSw
                skip
                go_simp
                skip
                try with_reducible rfl
              simp only [Act.put, List.setIfInBounds_toArray, List.set_cons_succ, List.set_cons_zero]
              refine wpAnyG_takeL (i := 8) (v := ?_) rfl (by kernel_rfl) (fun _ _ _ h => h) (Or.inl ⟨by rfl, ?_⟩) hHeld ?_
              rotate_left
              · intro w' hSw
                skip
                go_simp
                skip
                try with_reducible rfl
              simp only [Act.put, List.setIfInBounds_toArray, List.set_cons_succ, List.set_cons_zero]
              refine wpAnyG_takeL (i := 9) (v := ?_) rfl (by kernel_rfl) (fun _ _ _ h => h) (Or.inl ⟨by rfl, ?_⟩) hHeld ?_
              rotate_left
              · intro w' hSw
                skip
                go_simp
                skip
                try with_reducible rfl
              simp only [Act.put, List.setIfInBounds_toArray, List.set_cons_succ, List.set_cons_zero]
              refine wpAnyG_takeL (i := 10) (v := ?_) rfl (by kernel_rfl) (fun _ _ _ h => h) (Or.inl ⟨by rfl, ?_⟩) hHeld ?_
              rotate_left
              · intro w' hSw
                skip
                go_simp
                skip
                try with_reducible rfl
              simp only [Act.put, List.setIfInBounds_toArray, List.set_cons_succ, List.set_cons_zero]
              refine wpAnyG_takeL (i := 11) (v := ?_) rfl (by kernel_rfl) (fun _ _ _ h => h) (Or.inl ⟨by rfl, ?_⟩) hHeld ?_
              rotate_left
              · intro w' hSw
                skip
                go_simp
                skip
                try with_reducible rfl
              simp only [Act.put, List.setIfInBounds_toArray, List.set_cons_succ, List.set_cons_zero]
              refine wpAnyG_takeL (i := 12) (v := undef) rfl (by kernel_rfl) (fun _ _ _ h => h) (Or.inr ⟨by rfl, rfl⟩) hHeld ?_
              simp only [Act.put, List.setIfInBounds_toArray, List.set_cons_succ, List.set_cons_zero]
              refine wpAnyG_takeL (i := 13) (v := undef) rfl (by kernel_rfl) (fun _ _ _ h => h) (Or.inr ⟨by rfl, rfl⟩) hHeld ?_
              simp only [Act.put, List.setIfInBounds_toArray, List.set_cons_succ, List.set_cons_zero]
              refine wpAnyG_takeL (i := 14) (v := undef) rfl (by kernel_rfl) (fun _ _ _ h => h) (Or.inr ⟨by rfl, rfl⟩) hHeld ?_
              simp only [Act.put, List.setIfInBounds_toArray, List.set_cons_succ, List.set_cons_zero]
              refine wpAnyG_takeL (i := 15) (v := ?_) rfl (by kernel_rfl) (fun _ _ _ h => h) (Or.inl ⟨by rfl, ?_⟩) hHeld ?_
              rotate_left
              · intro w' hSw
                skip
                go_simp
                simp only [Bool.false_eq_true, ↓reduceIte]
                try with_reducible rfl
              simp only [Act.put, List.setIfInBounds_toArray, List.set_cons_succ, List.set_cons_zero]
              refine wpAnyG_takeL (i := 17) (v := ?_) rfl (by kernel_rfl) (fun _ _ _ h => h) (Or.inl ⟨by rfl, ?_⟩) hHeld ?_
              rotate_left
              · intro w' hSw
                skip
                go_simp
                skip
                try with_reducible rfl
              simp only [Act.put, List.setIfInBounds_toArray, List.set_cons_succ, List.set_cons_zero]
              have hput := hHeld.put (i := i) j3 false
              have c1 : (_ : Option Value) = some (.bool (M i j)) := (hHeld.m.cell (i * 65 + j)).trans (mW_at M i3 j3)
              have c2 := hHeld.m.frozen (i * 65 + j)
              have HP := hide (⟨((unhide HF).put hv), hput⟩ : Fill l _ i (j + 1) _ ∧ WayS w _ _)
              clear hput hv
              refine wpAnyG_oneL (i := 18) (by kernel_rfl) rfl (fun K hK => ?_)
              go_simp
              refine hK.out _ _ ⟨fun h => absurd h (by decide), ?_⟩
              clear hK K
              refine wpAnyG_done (by kernel_rfl) ?_ _
              go_wp2
              go_roundw
              case rel => exact ⟨j + 1, _, hjn, by go_num, HP.out.1, HP.out.2⟩
              case measure => simp [intOf]; omega
            · have e2 : ((i : Int) == out) = false := by simpa using e1
              have e3 : ((i : Int) != out) = true := by simpa using e1
              by_cases e4 : (j : Int) = out
              · subst e4
                have hv : false = true ↔ EdP l j i j := ⟨fun h => Bool.noConfusion h, fun h => absurd rfl h.2.2⟩
                refine wpAnyG_takeL (i := 6) (v := ?_) rfl (by kernel_rfl) (fun _ _ _ h => h) (Or.inl ⟨by rfl, ?_⟩) hHeld ?_
                rotate_left
                · intro w' hSw
                  skip
                  go_simp
                  skip
                  try with_reducible rfl
                simp only [Act.put, List.setIfInBounds_toArray, List.set_cons_succ, List.set_cons_zero]
                refine wpAnyG_takeL (i := 7) (v := ?_) rfl (by kernel_rfl) (fun _ _ _ h => h) (Or.inl ⟨by rfl, ?_⟩) hHeld ?_
                rotate_left
                · intro w' hSw
                  skip
                  go_simp
                  skip
                  try with_reducible rfl
                simp only [Act.put, List.setIfInBounds_toArray, List.set_cons_succ, List.set_cons_zero]
                refine wpAnyG_takeL (i := 8) (v := ?_) rfl (by kernel_rfl) (fun _ _ _ h => h) (Or.inl ⟨by rfl, ?_⟩) hHeld ?_
                rotate_left
                · intro w' hSw
                  skip
                  go_simp
                  skip
                  try with_reducible rfl
                simp only [Act.put, List.setIfInBounds_toArray, List.set_cons_succ, List.set_cons_zero]
                refine wpAnyG_takeL (i := 9) (v := ?_) rfl (by kernel_rfl) (fun _ _ _ h => h) (Or.inl ⟨by rfl, ?_⟩) hHeld ?_
                rotate_left
                · intro w' hSw
                  skip
                  go_simp
                  skip
                  try with_reducible rfl
                simp only [Act.put, List.setIfInBounds_toArray, List.set_cons_succ, List.set_cons_zero]
                refine wpAnyG_takeL (i := 10) (v := ?_) rfl (by kernel_rfl) (fun _ _ _ h => h) (Or.inl ⟨by rfl, ?_⟩) hHeld ?_
                rotate_left
                · intro w' hSw
                  skip
                  go_simp
                  skip
                  try with_reducible rfl
                simp only [Act.put, List.setIfInBounds_toArray, List.set_cons_succ, List.set_cons_zero]
                refine wpAnyG_takeL (i := 11) (v := ?_) rfl (by kernel_rfl) (fun _ _ _ h => h) (Or.inl ⟨by rfl, ?_⟩) hHeld ?_
                rotate_left
                · intro w' hSw
                  skip
                  go_simp
                  skip
                  try with_reducible rfl
                simp only [Act.put, List.setIfInBounds_toArray, List.set_cons_succ, List.set_cons_zero]
                refine wpAnyG_takeL (i := 12) (v := ?_) rfl (by kernel_rfl) (fun _ _ _ h => h) (Or.inl ⟨by rfl, ?_⟩) hHeld ?_
                rotate_left
                · intro w' hSw
                  skip
                  go_simp
                  skip
                  try with_reducible rfl
                simp only [Act.put, List.setIfInBounds_toArray, List.set_cons_succ, List.set_cons_zero]
                refine wpAnyG_takeL (i := 13) (v := ?_) rfl (by kernel_rfl) (fun _ _ _ h => h) (Or.inl ⟨by rfl, ?_⟩) hHeld ?_
                rotate_left
                · intro w' hSw
                  skip
                  go_simp
                  skip
                  try with_reducible rfl
                simp only [Act.put, List.setIfInBounds_toArray, List.set_cons_succ, List.set_cons_zero]
                refine wpAnyG_takeL (i := 14) (v := ?_) rfl (by kernel_rfl) (fun _ _ _ h => h) (Or.inl ⟨by rfl, ?_⟩) hHeld ?_
                rotate_left
                · intro w' hSw
                  skip
                  go_simp
                  skip
                  try with_reducible rfl
                simp only [Act.put, List.setIfInBounds_toArray, List.set_cons_succ, List.set_cons_zero]
                refine wpAnyG_takeL (i := 15) (v := ?_) rfl (by kernel_rfl) (fun _ _ _ h => h) (Or.inl ⟨by rfl, ?_⟩) hHeld ?_
                rotate_left
                · intro w' hSw
                  skip
                  go_simp
                  skip
                  try with_reducible rfl
                simp only [Act.put, List.setIfInBounds_toArray, List.set_cons_succ, List.set_cons_zero]
                refine wpAnyG_takeL (i := 17) (v := ?_) rfl (by kernel_rfl) (fun _ _ _ h => h) (Or.inl ⟨by rfl, ?_⟩) hHeld ?_
                rotate_left
                · intro w' hSw
                  skip
                  go_simp
                  skip
                  try with_reducible rfl
                simp only [Act.put, List.setIfInBounds_toArray, List.set_cons_succ, List.set_cons_zero]
                have hput := hHeld.put (i := i) j3 false
                have c1 : (_ : Option Value) = some (.bool (M i j)) := (hHeld.m.cell (i * 65 + j)).trans (mW_at M i3 j3)
                have c2 := hHeld.m.frozen (i * 65 + j)
                have HP := hide (⟨((unhide HF).put hv), hput⟩ : Fill l _ i (j + 1) _ ∧ WayS w _ _)
                clear hput hv
                refine wpAnyG_oneL (i := 18) (by kernel_rfl) rfl (fun K hK => ?_)
                go_simp
                refine hK.out _ _ ⟨fun h => absurd h (by decide), ?_⟩
                clear hK K
                refine wpAnyG_done (by kernel_rfl) ?_ _
                go_wp2
                go_roundw
                case rel => exact ⟨j + 1, _, hjn, by go_num, HP.out.1, HP.out.2⟩
                case measure => simp [intOf]; omega
              · have e5 : ((j : Int) == out) = false := by simpa using e4
                have e6 : ((j : Int) != out) = true := by simpa using e4
                have hv : true = true ↔ EdP l out i j := ⟨fun _ => ⟨hq2, e1, e4⟩, fun _ => rfl⟩
                refine wpAnyG_takeL (i := 6) (v := ?_) rfl (by kernel_rfl) (fun _ _ _ h => h) (Or.inl ⟨by rfl, ?_⟩) hHeld ?_
                rotate_left
                · intro w' hSw
                  skip
                  go_simp
                  skip
                  try with_reducible rfl
                simp only [Act.put, List.setIfInBounds_toArray, List.set_cons_succ, List.set_cons_zero]
                refine wpAnyG_takeL (i := 7) (v := ?_) rfl (by kernel_rfl) (fun _ _ _ h => h) (Or.inl ⟨by rfl, ?_⟩) hHeld ?_
                rotate_left
                · intro w' hSw
                  skip
                  go_simp
                  skip
                  try with_reducible rfl
                simp only [Act.put, List.setIfInBounds_toArray, List.set_cons_succ, List.set_cons_zero]
                refine wpAnyG_takeL (i := 8) (v := ?_) rfl (by kernel_rfl) (fun _ _ _ h => h) (Or.inl ⟨by rfl, ?_⟩) hHeld ?_
                rotate_left
                · intro w' hSw
                  skip
                  go_simp
                  skip
                  try with_reducible rfl
                simp only [Act.put, List.setIfInBounds_toArray, List.set_cons_succ, List.set_cons_zero]
                refine wpAnyG_takeL (i := 9) (v := ?_) rfl (by kernel_rfl) (fun _ _ _ h => h) (Or.inl ⟨by rfl, ?_⟩) hHeld ?_
                rotate_left
                · intro w' hSw
                  skip
                  go_simp
                  skip
                  try with_reducible rfl
                simp only [Act.put, List.setIfInBounds_toArray, List.set_cons_succ, List.set_cons_zero]
                refine wpAnyG_takeL (i := 10) (v := ?_) rfl (by kernel_rfl) (fun _ _ _ h => h) (Or.inl ⟨by rfl, ?_⟩) hHeld ?_
                rotate_left
                · intro w' hSw
                  skip
                  go_simp
                  skip
                  try with_reducible rfl
                simp only [Act.put, List.setIfInBounds_toArray, List.set_cons_succ, List.set_cons_zero]
                refine wpAnyG_takeL (i := 11) (v := ?_) rfl (by kernel_rfl) (fun _ _ _ h => h) (Or.inl ⟨by rfl, ?_⟩) hHeld ?_
                rotate_left
                · intro w' hSw
                  skip
                  go_simp
                  skip
                  try with_reducible rfl
                simp only [Act.put, List.setIfInBounds_toArray, List.set_cons_succ, List.set_cons_zero]
                refine wpAnyG_takeL (i := 12) (v := ?_) rfl (by kernel_rfl) (fun _ _ _ h => h) (Or.inl ⟨by rfl, ?_⟩) hHeld ?_
                rotate_left
                · intro w' hSw
                  skip
                  go_simp
                  skip
                  try with_reducible rfl
                simp only [Act.put, List.setIfInBounds_toArray, List.set_cons_succ, List.set_cons_zero]
                refine wpAnyG_takeL (i := 13) (v := ?_) rfl (by kernel_rfl) (fun _ _ _ h => h) (Or.inl ⟨by rfl, ?_⟩) hHeld ?_
                rotate_left
                · intro w' hSw
                  skip
                  go_simp
                  skip
                  try with_reducible rfl
                simp only [Act.put, List.setIfInBounds_toArray, List.set_cons_succ, List.set_cons_zero]
                refine wpAnyG_takeL (i := 14) (v := ?_) rfl (by kernel_rfl) (fun _ _ _ h => h) (Or.inl ⟨by rfl, ?_⟩) hHeld ?_
                rotate_left
                · intro w' hSw
                  skip
                  go_simp
                  skip
                  try with_reducible rfl
                simp only [Act.put, List.setIfInBounds_toArray, List.set_cons_succ, List.set_cons_zero]
                refine wpAnyG_takeL (i := 15) (v := ?_) rfl (by kernel_rfl) (fun _ _ _ h => h) (Or.inl ⟨by rfl, ?_⟩) hHeld ?_
                rotate_left
                · intro w' hSw
                  skip
                  go_simp
                  skip
                  try with_reducible rfl
                simp only [Act.put, List.setIfInBounds_toArray, List.set_cons_succ, List.set_cons_zero]
                refine wpAnyG_takeL (i := 17) (v := ?_) rfl (by kernel_rfl) (fun _ _ _ h => h) (Or.inl ⟨by rfl, ?_⟩) hHeld ?_
                rotate_left
                · intro w' hSw
                  skip
                  go_simp
                  skip
                  try with_reducible rfl
                simp only [Act.put, List.setIfInBounds_toArray, List.set_cons_succ, List.set_cons_zero]
                have hput := hHeld.put (i := i) j3 true
                have c1 : (_ : Option Value) = some (.bool (M i j)) := (hHeld.m.cell (i * 65 + j)).trans (mW_at M i3 j3)
                have c2 := hHeld.m.frozen (i * 65 + j)
                have HP := hide (⟨((unhide HF).put hv), hput⟩ : Fill l _ i (j + 1) _ ∧ WayS w _ _)
                clear hput hv
                refine wpAnyG_oneL (i := 18) (by kernel_rfl) rfl (fun K hK => ?_)
                go_simp
                refine hK.out _ _ ⟨fun h => absurd h (by decide), ?_⟩
                clear hK K
                refine wpAnyG_done (by kernel_rfl) ?_ _
                go_wp2
                go_roundw
                case rel => exact ⟨j + 1, _, hjn, by go_num, HP.out.1, HP.out.2⟩
                case measure => simp [intOf]; omega
        · have je : j = n + 1 := by omega
          have jz : ¬ (j : Int) < (n : Int) + 1 := by omega
          have HF2 := hide (hF.next (j := j) (by rw [je]; exact unhide HNX))
          have HI2 := hide hI
          clear hF hI je hjt
          go_wp2
          go_roundw
          case rel => exact ⟨i + 1, _, by omega, by go_num, HF2.out, HI2.out⟩
          case measure => simp [intOf]; omega
    · have ie : i = n + 1 := by omega
      have iz : ¬ (i : Int) < (n : Int) + 1 := by omega
      have HW := hide (hF.done (by have := HLN.out; omega))
      have HI := hide hI
      obtain ⟨wb, rfl⟩ : ∃ x, x = wr := ⟨_, rfl⟩
      clear hF hI ie hlt
      go_wp2
      go_loopw [9] (fun kk wr => ∃ (k : Nat) (M : Nat → Nat → Bool), k ≤ n + 1 ∧ kk = .int .i64 k ∧ Warsh l out k 0 0 M ∧ WayS w M wr) (fun kk _ => n + 1 - (intOf kk).toNat)
      case atStart => exact ⟨0, _, by omega, rfl, HW.out, HI.out⟩
      case round =>
        clear HI HW
        obtain ⟨k, M, hk, rfl, hF, hI⟩ := hrel
        by_cases hkt : k < n + 1
        · have k1 : (k : Int) < (n : Int) + 1 := by omega
          have k2 : (k : Int) < 65 := by omega
          have k3 : k < 65 := by omega
          have HF := hide hF
          have HI := hide hI
          obtain ⟨wc, rfl⟩ : ∃ x, x = wr := ⟨_, rfl⟩
          clear hF hI
          go_wp2
          go_loopw [10] (fun ii wr => ∃ (i : Nat) (M : Nat → Nat → Bool), i ≤ n + 1 ∧ ii = .int .i64 i ∧ Warsh l out k i 0 M ∧ WayS w M wr) (fun ii _ => n + 1 - (intOf ii).toNat)
          case atStart => exact ⟨0, _, by omega, rfl, HF.out, HI.out⟩
          case round =>
            clear HI HF
            obtain ⟨i, M, hi, rfl, hF, hI⟩ := hrel
            by_cases hit : i < n + 1
            · have i1 : (i : Int) < (n : Int) + 1 := by omega
              have i2 : (i : Int) < 65 := by omega
              have i3 : i < 65 := by omega
              have hin : i + 1 ≤ n + 1 := by omega
              have HF := hide hF
              have HI := hide hI
              obtain ⟨wd, rfl⟩ : ∃ x, x = wr := ⟨_, rfl⟩
              clear hF hI
              go_wp2
              go_loopw [11] (fun jj wr => ∃ (j : Nat) (M : Nat → Nat → Bool), j ≤ n + 1 ∧ jj = .int .i64 j ∧ Warsh l out k i j M ∧ WayS w M wr) (fun jj _ => n + 1 - (intOf jj).toNat)
              case atStart => exact ⟨0, _, by omega, rfl, HF.out, HI.out⟩
              case round =>
                clear HI HF
                obtain ⟨j, M, hj, rfl, hF, hI⟩ := hrel
                by_cases hjt : j < n + 1
                · have j1 : (j : Int) < (n : Int) + 1 := by omega
                  have j2 : (j : Int) < 65 := by omega
                  have j3 : j < 65 := by omega
                  have hjn : j + 1 ≤ n + 1 := by omega
                  have d1 : (_ : Option Value) = some (.bool (M i k)) := (hI.m.cell (i * 65 + k)).trans (mW_at M i3 k3)
                  cases hc : M i k
                  · rw [hc] at d1
                    have HF2 := hide (hF.none_ hc)
                    have HI2 := hide hI
                    clear hF hI hc
                    go_wp2
                    go_roundw
                    case rel => exact ⟨i + 1, _, hin, by go_num, HF2.out, HI2.out⟩
                    case measure => simp [intOf]; omega
                  · rw [hc] at d1
                    have hW := hF.put hc
                    clear hF hc
                    go_upto_region 19 with fail
                    clear d1
                    have hHeld := hI.to ((Below.refl _ _).drew)
                    clear hI
                    refine wp_region_G 16 (fun W => WayS w M W) (by kernel_rfl) ?_
                    simp only [List.size_toArray, List.length_cons, List.length_nil, Nat.zero_add, Nat.reduceAdd]
                    cases hp : M i j
                    · rw [hp, Bool.false_or] at hW
                      have HW := hide hW
                      clear hW
                      refine wpAnyG_takeL (i := 0) (v := ?_) rfl (by kernel_rfl) (fun _ _ _ h => h) (Or.inl ⟨by rfl, ?_⟩) hHeld ?_
                      rotate_left
                      · intro w' hSw
                        skip
                        go_simp
                        skip
                        try with_reducible rfl
                      simp only [Act.put, List.setIfInBounds_toArray, List.set_cons_succ, List.set_cons_zero]
                      refine wpAnyG_takeL (i := 1) (v := ?_) rfl (by kernel_rfl) (fun _ _ _ h => h) (Or.inl ⟨by rfl, ?_⟩) hHeld ?_
                      rotate_left
                      · intro w' hSw
                        skip
                        go_simp
                        skip
                        try with_reducible rfl
                      simp only [Act.put, List.setIfInBounds_toArray, List.set_cons_succ, List.set_cons_zero]
                      refine wpAnyG_takeL (i := 2) (v := ?_) rfl (by kernel_rfl) (fun _ _ _ h => h) (Or.inl ⟨by rfl, ?_⟩) hHeld ?_
                      rotate_left
                      · intro w' hSw
                        skip
                        go_simp
                        skip
                        try with_reducible rfl
                      simp only [Act.put, List.setIfInBounds_toArray, List.set_cons_succ, List.set_cons_zero]
                      refine wpAnyG_takeL (i := 3) (v := ?_) rfl (by kernel_rfl) (fun _ _ _ h => h) (Or.inl ⟨by rfl, ?_⟩) hHeld ?_
                      rotate_left
                      · intro w' hSw
                        skip
                        go_simp
                        skip
                        try with_reducible rfl
                      simp only [Act.put, List.setIfInBounds_toArray, List.set_cons_succ, List.set_cons_zero]
                      refine wpAnyG_takeL (i := 4) (v := ?_) rfl (by kernel_rfl) (fun _ _ _ h => h) (Or.inl ⟨by rfl, ?_⟩) hHeld ?_
                      rotate_left
                      · intro w' hSw
                        skip
                        go_simp
                        skip
                        try with_reducible rfl
                      simp only [Act.put, List.setIfInBounds_toArray, List.set_cons_succ, List.set_cons_zero]
                      refine wpAnyG_takeL (i := 5) (v := ?_) rfl (by kernel_rfl) (fun _ _ _ h => h) (Or.inl ⟨by rfl, ?_⟩) hHeld ?_
                      rotate_left
                      · intro w' hSw
                        skip
                        go_simp
                        skip
                        try with_reducible rfl
                      simp only [Act.put, List.setIfInBounds_toArray, List.set_cons_succ, List.set_cons_zero]
                      refine wpAnyG_takeL (i := 6) (v := ?_) rfl (by kernel_rfl) (fun _ _ _ h => h) (Or.inl ⟨by rfl, ?_⟩) hHeld ?_
                      rotate_left
                      · intro w' hSw
                        have c1 : (_ : Option Value) = some (.bool false) := ((hSw.m.cell (i * 65 + j)).trans (mW_at M i3 j3)).trans (by rw [hp])
                        go_simp
                        skip
                        try with_reducible rfl
                      simp only [Act.put, List.setIfInBounds_toArray, List.set_cons_succ, List.set_cons_zero]
                      refine wpAnyG_takeL (i := 7) (v := ?_) rfl (by kernel_rfl) (fun _ _ _ h => h) (Or.inl ⟨by rfl, ?_⟩) hHeld ?_
                      rotate_left
                      · intro w' hSw
                        skip
                        go_simp
                        skip
                        try with_reducible rfl
                      simp only [Act.put, List.setIfInBounds_toArray, List.set_cons_succ, List.set_cons_zero]
                      refine wpAnyG_takeL (i := 8) (v := ?_) rfl (by kernel_rfl) (fun _ _ _ h => h) (Or.inl ⟨by rfl, ?_⟩) hHeld ?_
                      rotate_left
                      · intro w' hSw
                        skip
                        go_simp
                        skip
                        try with_reducible rfl
                      simp only [Act.put, List.setIfInBounds_toArray, List.set_cons_succ, List.set_cons_zero]
                      refine wpAnyG_takeL (i := 9) (v := ?_) rfl (by kernel_rfl) (fun _ _ _ h => h) (Or.inl ⟨by rfl, ?_⟩) hHeld ?_
                      rotate_left
                      · intro w' hSw
                        skip
                        go_simp
                        skip
                        try with_reducible rfl
                      simp only [Act.put, List.setIfInBounds_toArray, List.set_cons_succ, List.set_cons_zero]
                      refine wpAnyG_takeL (i := 10) (v := ?_) rfl (by kernel_rfl) (fun _ _ _ h => h) (Or.inl ⟨by rfl, ?_⟩) hHeld ?_
                      rotate_left
                      · intro w' hSw
                        skip
                        go_simp
                        skip
                        try with_reducible rfl
                      simp only [Act.put, List.setIfInBounds_toArray, List.set_cons_succ, List.set_cons_zero]
                      refine wpAnyG_takeL (i := 11) (v := ?_) rfl (by kernel_rfl) (fun _ _ _ h => h) (Or.inl ⟨by rfl, ?_⟩) hHeld ?_
                      rotate_left
                      · intro w' hSw
                        skip
                        go_simp
                        skip
                        try with_reducible rfl
                      simp only [Act.put, List.setIfInBounds_toArray, List.set_cons_succ, List.set_cons_zero]
                      refine wpAnyG_takeL (i := 12) (v := ?_) rfl (by kernel_rfl) (fun _ _ _ h => h) (Or.inl ⟨by rfl, ?_⟩) hHeld ?_
                      rotate_left
                      · intro w' hSw
                        have c1 : (_ : Option Value) = some (.bool (M k j)) := (hSw.m.cell (k * 65 + j)).trans (mW_at M k3 j3)
                        go_simp
                        skip
                        try with_reducible rfl
                      simp only [Act.put, List.setIfInBounds_toArray, List.set_cons_succ, List.set_cons_zero]
                      refine wpAnyG_takeL (i := 13) (v := ?_) rfl (by kernel_rfl) (fun _ _ _ h => h) (Or.inl ⟨by rfl, ?_⟩) hHeld ?_
                      rotate_left
                      · intro w' hSw
                        skip
                        go_simp
                        skip
                        try with_reducible rfl
                      simp only [Act.put, List.setIfInBounds_toArray, List.set_cons_succ, List.set_cons_zero]
                      refine wpAnyG_takeL (i := 14) (v := ?_) rfl (by kernel_rfl) (fun _ _ _ h => h) (Or.inl ⟨by rfl, ?_⟩) hHeld ?_
                      rotate_left
                      · intro w' hSw
                        skip
                        go_simp
                        skip
                        try with_reducible rfl
                      simp only [Act.put, List.setIfInBounds_toArray, List.set_cons_succ, List.set_cons_zero]
                      refine wpAnyG_takeL (i := 15) (v := ?_) rfl (by kernel_rfl) (fun _ _ _ h => h) (Or.inl ⟨by rfl, ?_⟩) hHeld ?_
                      rotate_left
                      · intro w' hSw
                        skip
                        go_simp
                        skip
                        try with_reducible rfl
                      simp only [Act.put, List.setIfInBounds_toArray, List.set_cons_succ, List.set_cons_zero]
                      have hput := hHeld.put (i := i) j3 (M k j)
                      have c1 : (_ : Option Value) = some (.bool (M i j)) := (hHeld.m.cell (i * 65 + j)).trans (mW_at M i3 j3)
                      have c2 := hHeld.m.frozen (i * 65 + j)
                      have HQ := hide hput
                      clear hput
                      refine wpAnyG_oneL (i := 16) (by kernel_rfl) rfl (fun K hK => ?_)
                      go_simp
                      refine hK.out _ _ ⟨fun h => absurd h (by decide), ?_⟩
                      clear hK K
                      refine wpAnyG_done (by kernel_rfl) ?_ _
                      go_wp2
                      go_roundw
                      case rel => exact ⟨j + 1, _, hjn, by go_num, HW.out, HQ.out⟩
                      case measure => simp [intOf]; omega
                    · rw [hp, Bool.true_or] at hW
                      have HW := hide hW
                      clear hW
                      refine wpAnyG_takeL (i := 0) (v := ?_) rfl (by kernel_rfl) (fun _ _ _ h => h) (Or.inl ⟨by rfl, ?_⟩) hHeld ?_
                      rotate_left
                      · intro w' hSw
                        skip
                        go_simp
                        skip
                        try with_reducible rfl
                      simp only [Act.put, List.setIfInBounds_toArray, List.set_cons_succ, List.set_cons_zero]
                      refine wpAnyG_takeL (i := 1) (v := ?_) rfl (by kernel_rfl) (fun _ _ _ h => h) (Or.inl ⟨by rfl, ?_⟩) hHeld ?_
                      rotate_left
                      · intro w' hSw
                        skip
                        go_simp
                        skip
                        try with_reducible rfl
                      simp only [Act.put, List.setIfInBounds_toArray, List.set_cons_succ, List.set_cons_zero]
                      refine wpAnyG_takeL (i := 2) (v := ?_) rfl (by kernel_rfl) (fun _ _ _ h => h) (Or.inl ⟨by rfl, ?_⟩) hHeld ?_
                      rotate_left
                      · intro w' hSw
                        skip
                        go_simp
                        skip
                        try with_reducible rfl
                      simp only [Act.put, List.setIfInBounds_toArray, List.set_cons_succ, List.set_cons_zero]
                      refine wpAnyG_takeL (i := 3) (v := ?_) rfl (by kernel_rfl) (fun _ _ _ h => h) (Or.inl ⟨by rfl, ?_⟩) hHeld ?_
                      rotate_left
                      · intro w' hSw
                        skip
                        go_simp
                        skip
                        try with_reducible rfl
                      simp only [Act.put, List.setIfInBounds_toArray, List.set_cons_succ, List.set_cons_zero]
                      refine wpAnyG_takeL (i := 4) (v := ?_) rfl (by kernel_rfl) (fun _ _ _ h => h) (Or.inl ⟨by rfl, ?_⟩) hHeld ?_
                      rotate_left
                      · intro w' hSw
                        skip
                        go_simp
                        skip
                        try with_reducible rfl
                      simp only [Act.put, List.setIfInBounds_toArray, List.set_cons_succ, List.set_cons_zero]
                      refine wpAnyG_takeL (i := 5) (v := ?_) rfl (by kernel_rfl) (fun _ _ _ h => h) (Or.inl ⟨by rfl, ?_⟩) hHeld ?_
                      rotate_left
                      · intro w' hSw
                        skip
                        go_simp
                        skip
                        try with_reducible rfl
                      simp only [Act.put, List.setIfInBounds_toArray, List.set_cons_succ, List.set_cons_zero]
                      refine wpAnyG_takeL (i := 6) (v := ?_) rfl (by kernel_rfl) (fun _ _ _ h => h) (Or.inl ⟨by rfl, ?_⟩) hHeld ?_
                      rotate_left
                      · intro w' hSw
                        have c1 : (_ : Option Value) = some (.bool true) := ((hSw.m.cell (i * 65 + j)).trans (mW_at M i3 j3)).trans (by rw [hp])
                        go_simp
                        skip
                        try with_reducible rfl
                      simp only [Act.put, List.setIfInBounds_toArray, List.set_cons_succ, List.set_cons_zero]
                      refine wpAnyG_takeL (i := 7) (v := ?_) rfl (by kernel_rfl) (fun _ _ _ h => h) (Or.inl ⟨by rfl, ?_⟩) hHeld ?_
                      rotate_left
                      · intro w' hSw
                        skip
                        go_simp
                        skip
                        try with_reducible rfl
                      simp only [Act.put, List.setIfInBounds_toArray, List.set_cons_succ, List.set_cons_zero]
                      refine wpAnyG_takeL (i := 8) (v := undef) rfl (by kernel_rfl) (fun _ _ _ h => h) (Or.inr ⟨by rfl, rfl⟩) hHeld ?_
                      simp only [Act.put, List.setIfInBounds_toArray, List.set_cons_succ, List.set_cons_zero]
                      refine wpAnyG_takeL (i := 9) (v := undef) rfl (by kernel_rfl) (fun _ _ _ h => h) (Or.inr ⟨by rfl, rfl⟩) hHeld ?_
                      simp only [Act.put, List.setIfInBounds_toArray, List.set_cons_succ, List.set_cons_zero]
                      refine wpAnyG_takeL (i := 10) (v := undef) rfl (by kernel_rfl) (fun _ _ _ h => h) (Or.inr ⟨by rfl, rfl⟩) hHeld ?_
                      simp only [Act.put, List.setIfInBounds_toArray, List.set_cons_succ, List.set_cons_zero]
                      refine wpAnyG_takeL (i := 11) (v := undef) rfl (by kernel_rfl) (fun _ _ _ h => h) (Or.inr ⟨by rfl, rfl⟩) hHeld ?_
                      simp only [Act.put, List.setIfInBounds_toArray, List.set_cons_succ, List.set_cons_zero]
                      refine wpAnyG_takeL (i := 12) (v := undef) rfl (by kernel_rfl) (fun _ _ _ h => h) (Or.inr ⟨by rfl, rfl⟩) hHeld ?_
                      simp only [Act.put, List.setIfInBounds_toArray, List.set_cons_succ, List.set_cons_zero]
                      refine wpAnyG_takeL (i := 13) (v := ?_) rfl (by kernel_rfl) (fun _ _ _ h => h) (Or.inl ⟨by rfl, ?_⟩) hHeld ?_
                      rotate_left
                      · intro w' hSw
                        skip
                        go_simp
                        skip
                        try with_reducible rfl
                      simp only [Act.put, List.setIfInBounds_toArray, List.set_cons_succ, List.set_cons_zero]
                      refine wpAnyG_takeL (i := 14) (v := ?_) rfl (by kernel_rfl) (fun _ _ _ h => h) (Or.inl ⟨by rfl, ?_⟩) hHeld ?_
                      rotate_left
                      · intro w' hSw
                        skip
                        go_simp
                        skip
                        try with_reducible rfl
                      simp only [Act.put, List.setIfInBounds_toArray, List.set_cons_succ, List.set_cons_zero]
                      refine wpAnyG_takeL (i := 15) (v := ?_) rfl (by kernel_rfl) (fun _ _ _ h => h) (Or.inl ⟨by rfl, ?_⟩) hHeld ?_
                      rotate_left
                      · intro w' hSw
                        skip
                        go_simp
                        skip
                        try with_reducible rfl
                      simp only [Act.put, List.setIfInBounds_toArray, List.set_cons_succ, List.set_cons_zero]
                      have hput := hHeld.put (i := i) j3 true
                      have c1 : (_ : Option Value) = some (.bool (M i j)) := (hHeld.m.cell (i * 65 + j)).trans (mW_at M i3 j3)
                      have c2 := hHeld.m.frozen (i * 65 + j)
                      have HQ := hide hput
                      clear hput
                      refine wpAnyG_oneL (i := 16) (by kernel_rfl) rfl (fun K hK => ?_)
                      go_simp
                      refine hK.out _ _ ⟨fun h => absurd h (by decide), ?_⟩
                      clear hK K
                      refine wpAnyG_done (by kernel_rfl) ?_ _
                      go_wp2
                      go_roundw
                      case rel => exact ⟨j + 1, _, hjn, by go_num, HW.out, HQ.out⟩
                      case measure => simp [intOf]; omega
                · have je : j = n + 1 := by omega
                  have jz : ¬ (j : Int) < (n : Int) + 1 := by omega
                  have HF2 := hide (hF.next (j := j) (by rw [je]; exact unhide HNX))
                  have HI2 := hide hI
                  clear hF hI je hjt
                  go_wp2
                  go_roundw
                  case rel => exact ⟨i + 1, _, hin, by go_num, HF2.out, HI2.out⟩
                  case measure => simp [intOf]; omega
            · have iz : ¬ (i : Int) < (n : Int) + 1 := by omega
              have HF2 := hide (hF.up (by have := HLN.out; omega))
              have HI2 := hide hI
              have hkn : k + 1 ≤ n + 1 := by omega
              clear hF hI hit
              go_wp2
              go_roundw
              case rel => exact ⟨k + 1, _, hkn, by go_num, HF2.out, HI2.out⟩
              case measure => simp [intOf]; omega
        · have ke : k = n + 1 := by omega
          have kz : ¬ (k : Int) < (n : Int) + 1 := by omega
          have HF2 := hide (hF.done (by rw [ke]; exact unhide HNX))
          have HX := hide (hI.r.row (mW M))
          have HBB := hide (below_setRow hI.b (Nat.le_refl _) (mW M))
          clear hF ke hkt
          go_upto_region 20 with fail
          refine wp_region_lit ?_
          refine hI.m.listLoad rfl _ rfl rfl Try.underlying111 rfl (sizeW M) ?_
          refine hI.r.listStore (cs' := mW M) rfl _ _ rfl rfl rfl (sizeW M) (by rw [mW_size, mW_size]) (mW_one M) ?_
          clear hI
          go_wp2
          refine bodyPost_ret ((unhide HX).results rfl _ rfl Try.underlying111 rfl (sizeW M)) rfl ?_
          exact ⟨M, rfl, HF2.out, HBB.out⟩
end
end Go.Proofs.Ytmiagijgecgfoaa
