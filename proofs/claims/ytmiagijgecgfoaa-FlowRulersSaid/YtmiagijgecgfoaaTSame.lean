/-
  The walks of bailiwicklaw14.same, bailiwicklaw12.Of and task.Of.
-/
import Derived.Test.YtmiagijgecgfoaaTBase
import Derived.ChangeKeysEq
namespace Go.Proofs.Ytmiagijgecgfoaa
open Go.RowKit

theorem Try.infoU64 : (Try.prog.info? 25).map (fun i => (i.zero, i.size, i.bytes)) = some (some (.int .u64 0), 1, 8) := by kernel_rfl
set_option maxRecDepth 100000 in
theorem eq8_same (r : Nat → Int) (w : World) :
    (Op.equalIn 10000 26 (.agg #[.int .u64 (r 0), .int .u64 (r 1), .int .u64 (r 2), .int .u64 (r 3), .int .u64 (r 4), .int .u64 (r 5), .int .u64 (r 6), .int .u64 (r 7)])
      (.agg #[.int .u64 (r 0), .int .u64 (r 1), .int .u64 (r 2), .int .u64 (r 3), .int .u64 (r 4), .int .u64 (r 5), .int .u64 (r 6), .int .u64 (r 7)])).run Try.prog w = .ok true w := by
  have hi := Try.infoU64
  cases hq : Try.prog.info? 25 with
  | none => rw [hq] at hi; simp at hi
  | some i =>
    rw [run_equalIn_array w 9999 _ _ Try.underlying26 hq]
    have hc : Try.prog.cellsOf 25 = 1 := by kernel_rfl
    rw [hc]
    have he : Try.prog.plainKey 25 = true := by kernel_rfl
    have hp : ∀ (xs : Array Value) (k : Nat) (v : Value) (w : World), xs[k]? = some v → (part 25 xs k).run Try.prog w = .ok v w := fun xs k v w hx => run_part_plain w he hx
    obtain ⟨X, hX⟩ : ∃ X : Array Value, #[.int .u64 (r 0), .int .u64 (r 1), .int .u64 (r 2), .int .u64 (r 3), .int .u64 (r 4), .int .u64 (r 5), .int .u64 (r 6), .int .u64 (r 7)] = X := ⟨_, rfl⟩
    rw [hX]
    have p0 : ∀ w, (part 25 X 0).run Try.prog w = .ok (.int .u64 (r 0)) w := fun w => hp X 0 _ w (by rw [← hX]; rfl)
    have p1 : ∀ w, (part 25 X 1).run Try.prog w = .ok (.int .u64 (r 1)) w := fun w => hp X 1 _ w (by rw [← hX]; rfl)
    have p2 : ∀ w, (part 25 X 2).run Try.prog w = .ok (.int .u64 (r 2)) w := fun w => hp X 2 _ w (by rw [← hX]; rfl)
    have p3 : ∀ w, (part 25 X 3).run Try.prog w = .ok (.int .u64 (r 3)) w := fun w => hp X 3 _ w (by rw [← hX]; rfl)
    have p4 : ∀ w, (part 25 X 4).run Try.prog w = .ok (.int .u64 (r 4)) w := fun w => hp X 4 _ w (by rw [← hX]; rfl)
    have p5 : ∀ w, (part 25 X 5).run Try.prog w = .ok (.int .u64 (r 5)) w := fun w => hp X 5 _ w (by rw [← hX]; rfl)
    have p6 : ∀ w, (part 25 X 6).run Try.prog w = .ok (.int .u64 (r 6)) w := fun w => hp X 6 _ w (by rw [← hX]; rfl)
    have p7 : ∀ w, (part 25 X 7).run Try.prog w = .ok (.int .u64 (r 7)) w := fun w => hp X 7 _ w (by rw [← hX]; rfl)
    simp [Op.eqItems, List.range, List.range.loop, run_equalIn_int _ _ _ _ _ _ _ Try.underlying25, p0, p1, p2, p3, p4, p5, p6, p7]
theorem guard8 : Try.prog.eqGuardType Try.prog.depth 26 = false := by kernel_rfl

section
variable {A A' : Option Addr} {n c c' nx : Nat} {r : Nat → Int} {w : World}

set_option maxRecDepth 100000 in
set_option maxHeartbeats 2000000 in
theorem same14_any :
    Calls Try.prog 19 #[tskV A n c nx r, tskV A' n c' nx r] w fun e w' => e = .returned (.bool true) ∧ Below w.heap.size w w' := by
  have hb0 : Below w.heap.size w ((w.alloc (.cells (tskC A n c nx r) 28)).alloc (.cells (tskC A' n c' nx r) 36)) := ((Below.refl _ _).alloc (Nat.le_refl _) _).alloc (by simp) _
  have hx0 : Bx ((w.alloc (.cells (tskC A n c nx r) 28)).alloc (.cells (tskC A' n c' nx r) 36)) w.heap.size (tskC A n c nx r) := (Bx.new _ _ _ _ rfl).alloc _
  have hy0 : Bx ((w.alloc (.cells (tskC A n c nx r) 28)).alloc (.cells (tskC A' n c' nx r) 36)) (w.heap.size + 1) (tskC A' n c' nx r) := Bx.new _ _ _ _ (by simp)
  have a0 := hx0.cell 0
  have a1 := hx0.cell 1
  have a2 := hx0.cell 2
  have a3 := hx0.cell 3
  have a4 := hx0.cell 4
  have a5 := hx0.cell 5
  have a6 := hx0.cell 6
  have a7 := hx0.cell 7
  have a8 := hx0.cell 8
  have a9 := hx0.cell 9
  have b0 := hy0.cell 0
  have b1 := hy0.cell 1
  have b2 := hy0.cell 2
  have b3 := hy0.cell 3
  have b4 := hy0.cell 4
  have b5 := hy0.cell 5
  have b6 := hy0.cell 6
  have b7 := hy0.cell 7
  have b8 := hy0.cell 8
  have b9 := hy0.cell 9
  simp only [tskV, tskC] at *
  have hE := fun w => eq8_same r w
  have hG := guard8
  clear hx0 hy0
  go_enter Try.func19, Try.ntmps19
  go_wp2
  go_ret
  exact ⟨rfl, hb0⟩

set_option maxRecDepth 100000 in
set_option maxHeartbeats 2000000 in
theorem of12_any (o hr hs a b v : Int) (h1 : 0 ≤ o ∧ o ≤ 255) (h2 : 0 ≤ hr ∧ hr ≤ 4294967295) (h3 : 0 ≤ hs ∧ hs ≤ 4294967295) (h4 : 0 ≤ a ∧ a ≤ 4294967295) (h5 : 0 ≤ b ∧ b ≤ 4294967295) :
    Calls Try.prog 16 #[callV o hr hs a b v] w fun e w' => e = .returned (.agg #[.int .i64 o, .int .i64 hr, .int .i64 hs, .int .i64 a, .int .i64 b, .int .u64 v]) ∧ Below w.heap.size w w' := by
  have w1 : IntKind.i64.wrap o = o := IntWalk.i64_in _ (by omega)
  have w2 : IntKind.i64.wrap hr = hr := IntWalk.i64_in _ (by omega)
  have w3 : IntKind.i64.wrap hs = hs := IntWalk.i64_in _ (by omega)
  have w4 : IntKind.i64.wrap a = a := IntWalk.i64_in _ (by omega)
  have w5 : IntKind.i64.wrap b = b := IntWalk.i64_in _ (by omega)
  unfold callV
  go_enter Try.func16, Try.ntmps16
  go_wp2
  refine bodyPost_ret (v := .agg #[.int .i64 o, .int .i64 hr, .int .i64 hs, .int .i64 a, .int .i64 b, .int .u64 v]) (by simp [results, Try.results16, go_sem]) rfl ⟨rfl, ?_⟩
  exact ((Below.refl _ _).alloc (Nat.le_refl _) _).alloc (by simp) _
end

theorem own_ten {w : World} {base g : Nat} {e : TypeId} {size : Nat} {v : Value} {n : Nat} {xs : List Value} (h : w.ownsRow base e size v n xs) (hg : g < base) (v0 v1 v2 v3 v4 v5 v6 v7 v8 v9 : Value) :
    ((((((((((w.setCell ⟨g, 0, none⟩ v0).setCell ⟨g, 1, none⟩ v1).setCell ⟨g, 2, none⟩ v2).setCell ⟨g, 3, none⟩ v3).setCell ⟨g, 4, none⟩ v4).setCell ⟨g, 5, none⟩ v5).setCell ⟨g, 6, none⟩ v6).setCell ⟨g, 7, none⟩ v7).setCell ⟨g, 8, none⟩ v8).setCell ⟨g, 9, none⟩ v9).ownsRow base e size v n xs :=
  ownsRow_setCell_below (ownsRow_setCell_below (ownsRow_setCell_below (ownsRow_setCell_below (ownsRow_setCell_below (ownsRow_setCell_below (ownsRow_setCell_below (ownsRow_setCell_below (ownsRow_setCell_below (ownsRow_setCell_below h (show (⟨g, 0, none⟩ : Addr).block < base from hg) v0) (show (⟨g, 1, none⟩ : Addr).block < base from hg) v1) (show (⟨g, 2, none⟩ : Addr).block < base from hg) v2) (show (⟨g, 3, none⟩ : Addr).block < base from hg) v3) (show (⟨g, 4, none⟩ : Addr).block < base from hg) v4) (show (⟨g, 5, none⟩ : Addr).block < base from hg) v5) (show (⟨g, 6, none⟩ : Addr).block < base from hg) v6) (show (⟨g, 7, none⟩ : Addr).block < base from hg) v7) (show (⟨g, 8, none⟩ : Addr).block < base from hg) v8) (show (⟨g, 9, none⟩ : Addr).block < base from hg) v9

set_option maxRecDepth 100000 in
set_option maxHeartbeats 2000000 in
theorem of14_any (s : List UInt8) (w : World) (hs : s.length ≤ 1000000) :
    Calls Try.prog 12 #[.string (S s)] w fun e w' => ∃ A c, e = .returned (.tuple #[tskV A (decL s).length c 0 (fun _ => 0), .int .i64 (decE s)]) ∧ Rd w' w'.heap.size 5 A (decL s).length ((decL s).flatMap Ins.cu) ∧ Below w.heap.size w w' := by
  have hb0 : Below w.heap.size w (w.alloc (.cells (tskC none 0 0 0 (fun _ => 0)) 28)) := (Below.refl _ _).alloc (Nat.le_refl _) _
  have hx0 : Bx (w.alloc (.cells (tskC none 0 0 0 (fun _ => 0)) 28)) w.heap.size (tskC none 0 0 0 (fun _ => 0)) := Bx.new _ _ _ _ rfl
  have hml := decL_le s
  by_cases hd : decOk s = true
  · have h1 := Lib.hid (decE_ok hd).1
    clear hd
    simp only [tskC] at hx0
    go_enter Try.func12, Try.ntmps12
    go_wp2_with fail
    refine (dec_any s _ (by omega)).mono ?_
    rintro e w1 ⟨A, c, rfl, hown, hb1⟩
    rw [h1.out]
    generalize hLn : (decL s).length = ln at *
    have HLn := Lib.hid hLn
    clear hLn
    have hx1 := hx0.to hb1
    have hbx := bt hb0 hb1
    have f0 := hx1.frozen 0
    have c0 := hx1.cell 0
    have f1 := hx1.frozen 1
    have c1 := hx1.cell 1
    have f2 := hx1.frozen 2
    have c2 := hx1.cell 2
    have f3 := hx1.frozen 3
    have c3 := hx1.cell 3
    have f4 := hx1.frozen 4
    have c4 := hx1.cell 4
    have f5 := hx1.frozen 5
    have c5 := hx1.cell 5
    have f6 := hx1.frozen 6
    have c6 := hx1.cell 6
    have f7 := hx1.frozen 7
    have c7 := hx1.cell 7
    have f8 := hx1.frozen 8
    have c8 := hx1.cell 8
    have f9 := hx1.frozen 9
    have c9 := hx1.cell 9
    have hbG := below_ten (g := w.heap.size) hbx (by omega) (.slice A ln c) (.int .i64 0) (.int .u64 0) (.int .u64 0) (.int .u64 0) (.int .u64 0) (.int .u64 0) (.int .u64 0) (.int .u64 0) (.int .u64 0)
    have hyF := hx1.ten (.slice A ln c) (.int .i64 0) (.int .u64 0) (.int .u64 0) (.int .u64 0) (.int .u64 0) (.int .u64 0) (.int .u64 0) (.int .u64 0) (.int .u64 0)
    have hr2 := Rd.of_own (own_ten (g := w.heap.size) hown (by simp) (.slice A ln c) (.int .i64 0) (.int .u64 0) (.int .u64 0) (.int .u64 0) (.int .u64 0) (.int .u64 0) (.int .u64 0) (.int .u64 0) (.int .u64 0))
    have HBG := hide hbG
    have HYF := hide hyF
    have HR := hide hr2
    clear hb0 hx0 hown hb1 hx1 hbx hbG hyF hr2
    go_wp2
    have d0 := (unhide HYF).cell 0
    have d1 := (unhide HYF).cell 1
    have d2 := (unhide HYF).cell 2
    have d3 := (unhide HYF).cell 3
    have d4 := (unhide HYF).cell 4
    have d5 := (unhide HYF).cell 5
    have d6 := (unhide HYF).cell 6
    have d7 := (unhide HYF).cell 7
    have d8 := (unhide HYF).cell 8
    have d9 := (unhide HYF).cell 9
    refine bodyPost_ret (v := .tuple #[.agg #[.slice A ln c, .int .i64 0, .int .u64 0, .int .u64 0, .int .u64 0, .int .u64 0, .int .u64 0, .int .u64 0, .int .u64 0, .int .u64 0], .int .i64 0]) (by simp [results, Try.results12, go_sem, d0, d1, d2, d3, d4, d5, d6, d7, d8, d9]) rfl ?_
    refine ⟨A, c, ?_, ?_, ?_⟩
    · rw [HLn.out, h1.out]; simp [tskV, tskC]
    · rw [HLn.out]; exact HR.out
    · exact HBG.out
  · replace hd : decOk s = false := by simpa using hd
    have h1 := Lib.hid (decE_no hd).1
    have h2 := Lib.hid (decE_no hd).2
    clear hd
    simp only [tskC] at hx0
    go_enter Try.func12, Try.ntmps12
    go_wp2_with fail
    refine (dec_any s _ (by omega)).mono ?_
    rintro e w1 ⟨A, c, rfl, hown, hb1⟩
    rw [h1.out]
    generalize hLn : (decL s).length = ln at *
    have HLn := Lib.hid hLn
    clear hLn
    have hx1 := hx0.to hb1
    have hbx := bt hb0 hb1
    have f0 := hx1.frozen 0
    have c0 := hx1.cell 0
    have f1 := hx1.frozen 1
    have c1 := hx1.cell 1
    have f2 := hx1.frozen 2
    have c2 := hx1.cell 2
    have f3 := hx1.frozen 3
    have c3 := hx1.cell 3
    have f4 := hx1.frozen 4
    have c4 := hx1.cell 4
    have f5 := hx1.frozen 5
    have c5 := hx1.cell 5
    have f6 := hx1.frozen 6
    have c6 := hx1.cell 6
    have f7 := hx1.frozen 7
    have c7 := hx1.cell 7
    have f8 := hx1.frozen 8
    have c8 := hx1.cell 8
    have f9 := hx1.frozen 9
    have c9 := hx1.cell 9
    have hbG := below_ten (g := w.heap.size) hbx (by omega) (.slice none 0 0) (.int .i64 0) (.int .u64 0) (.int .u64 0) (.int .u64 0) (.int .u64 0) (.int .u64 0) (.int .u64 0) (.int .u64 0) (.int .u64 0)
    have hyF := hx1.ten (.slice none 0 0) (.int .i64 0) (.int .u64 0) (.int .u64 0) (.int .u64 0) (.int .u64 0) (.int .u64 0) (.int .u64 0) (.int .u64 0) (.int .u64 0)
    have hr2 := Rd.of_own (own_ten (g := w.heap.size) hown (by simp) (.slice none 0 0) (.int .i64 0) (.int .u64 0) (.int .u64 0) (.int .u64 0) (.int .u64 0) (.int .u64 0) (.int .u64 0) (.int .u64 0) (.int .u64 0))
    have HBG := hide hbG
    have HYF := hide hyF
    have HR := hide hr2
    clear hb0 hx0 hown hb1 hx1 hbx hbG hyF hr2
    go_wp2
    have d0 := (unhide HYF).cell 0
    have d1 := (unhide HYF).cell 1
    have d2 := (unhide HYF).cell 2
    have d3 := (unhide HYF).cell 3
    have d4 := (unhide HYF).cell 4
    have d5 := (unhide HYF).cell 5
    have d6 := (unhide HYF).cell 6
    have d7 := (unhide HYF).cell 7
    have d8 := (unhide HYF).cell 8
    have d9 := (unhide HYF).cell 9
    refine bodyPost_ret (v := .tuple #[.agg #[.slice none 0 0, .int .i64 0, .int .u64 0, .int .u64 0, .int .u64 0, .int .u64 0, .int .u64 0, .int .u64 0, .int .u64 0, .int .u64 0], .int .i64 3]) (by simp [results, Try.results12, go_sem, d0, d1, d2, d3, d4, d5, d6, d7, d8, d9]) rfl ?_
    rw [h2.out, h1.out]
    refine ⟨none, 0, ?_, ?_, ?_⟩
    · simp [tskV, tskC]
    · exact Rd.none_
    · exact HBG.out
end Go.Proofs.Ytmiagijgecgfoaa
