/-
  The walks of the functions of task.Step that add, subtract and shift.
-/
import Derived.Test.YtmiagijgecgfoaaTClos
import Derived.Test.YtmiagijgecgfoaaTHeld
namespace Go.Proofs.Ytmiagijgecgfoaa
open Go.RowKit

/-- x << y -/
def shlV (x y : Int) : Int := IntKind.u64.wrap (x * 2 ^ (min y.toNat 64))
theorem shift_shlV (yk : IntKind) (x y : Int) (h : 0 ≤ y) : Op.shift .shl .u64 x yk y = pure (.int .u64 (shlV x y)) := by
  unfold Op.shift shlV
  rw [if_neg (by omega)]
  rfl

section
variable {A : Option Addr} {n c nx : Nat} {r : Nat → Int} {w : World} {gt gi gp gn ka kb kc : Nat} {xo xn : Int}

set_option maxRecDepth 100000 in
set_option maxHeartbeats 400000 in
theorem clos2 (h : Doing A n c nx r gt gi gp gn ka kb kc xo xn w) (hka : ka < 8) (hkb : kb < 8) (hkc : kc < 8) :
    Calls Try.prog 49 #[.pointer (some ⟨gt, 0, none⟩), .pointer (some ⟨gi, 0, none⟩), .pointer (some ⟨gp, 0, none⟩)] w fun e w' => (∃ v, e = .returned v) ∧ ∃ w1, Below w.heap.size w w1 ∧ w' = w1.setCell ⟨gt, 2 + ka, none⟩ (.int .u64 (IntKind.u64.wrap (r kb + r kc))) := by
  have hT : TskAt w gt gi A n c nx r ⟨xo, ka, kb, kc, xn⟩ w := TskAt.of h.task h.ins (Below.refl _ _)
  have hR := fun w k hk => reg_any (A := A) (n := n) (c := c) (nx := nx) (r := r) (w := w) k hk
  simp only [tskV, tskC] at hR
  have HRG := hide hR
  have q0 := h.ptr.cell 0
  have hTask := h.task
  have hTo : ∀ W W' : World, (W.cell? ⟨gt, 0, none⟩ = some (.slice A n c) ∧ W.cell? ⟨gt, 1, none⟩ = some (.int .i64 nx) ∧ W.cell? ⟨gt, 2, none⟩ = some (.int .u64 (r 0)) ∧ W.cell? ⟨gt, 3, none⟩ = some (.int .u64 (r 1)) ∧ W.cell? ⟨gt, 4, none⟩ = some (.int .u64 (r 2)) ∧ W.cell? ⟨gt, 5, none⟩ = some (.int .u64 (r 3)) ∧ W.cell? ⟨gt, 6, none⟩ = some (.int .u64 (r 4)) ∧ W.cell? ⟨gt, 7, none⟩ = some (.int .u64 (r 5)) ∧ W.cell? ⟨gt, 8, none⟩ = some (.int .u64 (r 6)) ∧ W.cell? ⟨gt, 9, none⟩ = some (.int .u64 (r 7)) ∧ W.cell? ⟨gi, 0, none⟩ = some (.int .u8 xo) ∧ W.cell? ⟨gi, 1, none⟩ = some (.int .u8 ka) ∧ W.cell? ⟨gi, 2, none⟩ = some (.int .u8 kb) ∧ W.cell? ⟨gi, 3, none⟩ = some (.int .u8 kc) ∧ W.cell? ⟨gi, 4, none⟩ = some (.int .u16 xn) ∧ W.cell? ⟨gp, 0, none⟩ = some (.pointer (some ⟨gt, 2 + ka, none⟩)) ∧ Below w.heap.size w W) → Below W.heap.size W W' → W'.cell? ⟨gt, 0, none⟩ = some (.slice A n c) ∧ W'.cell? ⟨gt, 1, none⟩ = some (.int .i64 nx) ∧ W'.cell? ⟨gt, 2, none⟩ = some (.int .u64 (r 0)) ∧ W'.cell? ⟨gt, 3, none⟩ = some (.int .u64 (r 1)) ∧ W'.cell? ⟨gt, 4, none⟩ = some (.int .u64 (r 2)) ∧ W'.cell? ⟨gt, 5, none⟩ = some (.int .u64 (r 3)) ∧ W'.cell? ⟨gt, 6, none⟩ = some (.int .u64 (r 4)) ∧ W'.cell? ⟨gt, 7, none⟩ = some (.int .u64 (r 5)) ∧ W'.cell? ⟨gt, 8, none⟩ = some (.int .u64 (r 6)) ∧ W'.cell? ⟨gt, 9, none⟩ = some (.int .u64 (r 7)) ∧ W'.cell? ⟨gi, 0, none⟩ = some (.int .u8 xo) ∧ W'.cell? ⟨gi, 1, none⟩ = some (.int .u8 ka) ∧ W'.cell? ⟨gi, 2, none⟩ = some (.int .u8 kb) ∧ W'.cell? ⟨gi, 3, none⟩ = some (.int .u8 kc) ∧ W'.cell? ⟨gi, 4, none⟩ = some (.int .u16 xn) ∧ W'.cell? ⟨gp, 0, none⟩ = some (.pointer (some ⟨gt, 2 + ka, none⟩)) ∧ Below w.heap.size w W' := fun W W' ⟨h0, h1, h2, h3, h4, h5, h6, h7, h8, h9, i0, i1, i2, i3, i4, p0, hb⟩ hbW => by
    obtain ⟨k0, k1, k2, k3, k4, k5, k6, k7, k8, k9, m0, m1, m2, m3, m4, kb'⟩ := TskAt.to (x := ⟨xo, ka, kb, kc, xn⟩) ⟨h0, h1, h2, h3, h4, h5, h6, h7, h8, h9, i0, i1, i2, i3, i4, hb⟩ hbW
    exact ⟨k0, k1, k2, k3, k4, k5, k6, k7, k8, k9, m0, m1, m2, m3, m4, keepc hbW p0, kb'⟩
  have hHeld : w.drew.cell? ⟨gt, 0, none⟩ = some (.slice A n c) ∧ w.drew.cell? ⟨gt, 1, none⟩ = some (.int .i64 nx) ∧ w.drew.cell? ⟨gt, 2, none⟩ = some (.int .u64 (r 0)) ∧ w.drew.cell? ⟨gt, 3, none⟩ = some (.int .u64 (r 1)) ∧ w.drew.cell? ⟨gt, 4, none⟩ = some (.int .u64 (r 2)) ∧ w.drew.cell? ⟨gt, 5, none⟩ = some (.int .u64 (r 3)) ∧ w.drew.cell? ⟨gt, 6, none⟩ = some (.int .u64 (r 4)) ∧ w.drew.cell? ⟨gt, 7, none⟩ = some (.int .u64 (r 5)) ∧ w.drew.cell? ⟨gt, 8, none⟩ = some (.int .u64 (r 6)) ∧ w.drew.cell? ⟨gt, 9, none⟩ = some (.int .u64 (r 7)) ∧ w.drew.cell? ⟨gi, 0, none⟩ = some (.int .u8 xo) ∧ w.drew.cell? ⟨gi, 1, none⟩ = some (.int .u8 ka) ∧ w.drew.cell? ⟨gi, 2, none⟩ = some (.int .u8 kb) ∧ w.drew.cell? ⟨gi, 3, none⟩ = some (.int .u8 kc) ∧ w.drew.cell? ⟨gi, 4, none⟩ = some (.int .u16 xn) ∧ w.drew.cell? ⟨gp, 0, none⟩ = some (.pointer (some ⟨gt, 2 + ka, none⟩)) ∧ Below w.heap.size w w.drew := hTo w w.drew (by
    obtain ⟨k0, k1, k2, k3, k4, k5, k6, k7, k8, k9, m0, m1, m2, m3, m4, kb'⟩ := hT
    exact ⟨k0, k1, k2, k3, k4, k5, k6, k7, k8, k9, m0, m1, m2, m3, m4, q0, kb'⟩) ((Below.refl _ _).drew)
  have HTO := hide hTo
  have HH := hide hHeld
  clear h hR hT q0 hTo hHeld
  go_enter Try.func49, Try.ntmps49
  go_wp2
  refine wp_region_G 11 (fun w' => w'.cell? ⟨gt, 0, none⟩ = some (.slice A n c) ∧ w'.cell? ⟨gt, 1, none⟩ = some (.int .i64 nx) ∧ w'.cell? ⟨gt, 2, none⟩ = some (.int .u64 (r 0)) ∧ w'.cell? ⟨gt, 3, none⟩ = some (.int .u64 (r 1)) ∧ w'.cell? ⟨gt, 4, none⟩ = some (.int .u64 (r 2)) ∧ w'.cell? ⟨gt, 5, none⟩ = some (.int .u64 (r 3)) ∧ w'.cell? ⟨gt, 6, none⟩ = some (.int .u64 (r 4)) ∧ w'.cell? ⟨gt, 7, none⟩ = some (.int .u64 (r 5)) ∧ w'.cell? ⟨gt, 8, none⟩ = some (.int .u64 (r 6)) ∧ w'.cell? ⟨gt, 9, none⟩ = some (.int .u64 (r 7)) ∧ w'.cell? ⟨gi, 0, none⟩ = some (.int .u8 xo) ∧ w'.cell? ⟨gi, 1, none⟩ = some (.int .u8 ka) ∧ w'.cell? ⟨gi, 2, none⟩ = some (.int .u8 kb) ∧ w'.cell? ⟨gi, 3, none⟩ = some (.int .u8 kc) ∧ w'.cell? ⟨gi, 4, none⟩ = some (.int .u16 xn) ∧ w'.cell? ⟨gp, 0, none⟩ = some (.pointer (some ⟨gt, 2 + ka, none⟩)) ∧ Below w.heap.size w w') (by kernel_rfl) ?_
  simp only [List.size_toArray, List.length_cons, List.length_nil, Nat.zero_add, Nat.reduceAdd]
  have hHeld := HH.out
  refine wpAnyG_take (i := 0) (v := ?_) rfl (by kernel_rfl) (fun _ _ _ h => h) (Or.inl ⟨by rfl, ?_⟩) hHeld ?_
  rotate_left
  · intro w' hSw
    go_simp
    try with_reducible rfl
  refine wpAnyG_take (i := 1) (v := ?_) rfl (by kernel_rfl) (fun _ _ _ h => h) (Or.inl ⟨by rfl, ?_⟩) hHeld ?_
  rotate_left
  · intro w' hSw
    go_simp
    try with_reducible rfl
  refine wpAnyG_take (i := 2) (v := ?_) rfl (by kernel_rfl) (fun _ _ _ h => h) (Or.inl ⟨by rfl, ?_⟩) hHeld ?_
  rotate_left
  · intro w' hSw
    go_simp
    try with_reducible rfl
  refine wpAnyG_take (i := 3) (v := ?_) rfl (by kernel_rfl) (fun _ _ _ h => h) (Or.inl ⟨by rfl, ?_⟩) hHeld ?_
  rotate_left
  · intro w' hSw
    go_simp
    try with_reducible rfl
  refine wpAnyG_take (i := 5) (v := ?_) rfl (by kernel_rfl) (fun _ _ _ h => h) (Or.inl ⟨by rfl, ?_⟩) hHeld ?_
  rotate_left
  · intro w' hSw
    go_simp
    try with_reducible rfl
  refine wpAnyG_take (i := 6) (v := ?_) rfl (by kernel_rfl) (fun _ _ _ h => h) (Or.inl ⟨by rfl, ?_⟩) hHeld ?_
  rotate_left
  · intro w' hSw
    go_simp
    try with_reducible rfl
  refine wpAnyG_take (i := 7) (v := ?_) rfl (by kernel_rfl) (fun _ _ _ h => h) (Or.inl ⟨by rfl, ?_⟩) hHeld ?_
  rotate_left
  · intro w' hSw
    go_simp
    try with_reducible rfl
  simp only [Act.put, List.setIfInBounds_toArray]
  refine wpAnyG_one (i := 4) (by kernel_rfl) rfl (fun K hK => ?_)
  go_simp
  refine (unhide HRG _ kb hkb).mono ?_
  rintro e w2 ⟨rfl, hbw2⟩
  have hHeld := HTO.out _ _ hHeld hbw2
  refine hK.out _ _ ⟨fun _ => hHeld, ?_⟩
  clear hK K
  refine wpAnyG_one (i := 8) (by kernel_rfl) rfl (fun K hK => ?_)
  go_simp
  refine (unhide HRG _ kc hkc).mono ?_
  rintro e w3 ⟨rfl, hbw3⟩
  have hHeld := HTO.out _ _ hHeld hbw3
  refine hK.out _ _ ⟨fun _ => hHeld, ?_⟩
  clear hK K
  refine wpAnyG_take (i := 9) (v := ?_) rfl (by kernel_rfl) (fun _ _ _ h => h) (Or.inl ⟨by rfl, ?_⟩) hHeld ?_
  rotate_left
  · intro w' hSw
    go_simp
    try with_reducible rfl
  refine wpAnyG_take (i := 10) (v := ?_) rfl (by kernel_rfl) (fun _ _ _ h => h) (Or.inl ⟨by rfl, ?_⟩) hHeld ?_
  rotate_left
  · intro w' hSw
    go_simp
    try with_reducible rfl
  have x3 := ((hTask.to ((Below.refl _ _).drew)).to hbw2).to hbw3
  have hbF := bt (bt ((Below.refl _ _).drew) hbw2) hbw3
  have tk := (x3.cell (2 + ka)).trans (tsk_get A n c nx r ka hka)
  have tf := x3.frozen (2 + ka)
  refine wpAnyG_one (i := 11) (by kernel_rfl) rfl (fun K hK => ?_)
  go_simp
  refine hK.out _ _ ⟨fun h => absurd h (by decide), ?_⟩
  clear hK K
  refine wpAnyG_done (by kernel_rfl) ?_ _
  go_end0
  exact ⟨⟨_, rfl⟩, w3, hbF, rfl⟩

set_option maxRecDepth 100000 in
set_option maxHeartbeats 400000 in
theorem clos3 (h : Doing A n c nx r gt gi gp gn ka kb kc xo xn w) (hka : ka < 8) (hkb : kb < 8) (hkc : kc < 8) :
    Calls Try.prog 50 #[.pointer (some ⟨gt, 0, none⟩), .pointer (some ⟨gi, 0, none⟩), .pointer (some ⟨gp, 0, none⟩)] w fun e w' => (∃ v, e = .returned v) ∧ ∃ w1, Below w.heap.size w w1 ∧ w' = w1.setCell ⟨gt, 2 + ka, none⟩ (.int .u64 (IntKind.u64.wrap (r kb - r kc))) := by
  have hT : TskAt w gt gi A n c nx r ⟨xo, ka, kb, kc, xn⟩ w := TskAt.of h.task h.ins (Below.refl _ _)
  have hR := fun w k hk => reg_any (A := A) (n := n) (c := c) (nx := nx) (r := r) (w := w) k hk
  simp only [tskV, tskC] at hR
  have HRG := hide hR
  have q0 := h.ptr.cell 0
  have hTask := h.task
  have hTo : ∀ W W' : World, (W.cell? ⟨gt, 0, none⟩ = some (.slice A n c) ∧ W.cell? ⟨gt, 1, none⟩ = some (.int .i64 nx) ∧ W.cell? ⟨gt, 2, none⟩ = some (.int .u64 (r 0)) ∧ W.cell? ⟨gt, 3, none⟩ = some (.int .u64 (r 1)) ∧ W.cell? ⟨gt, 4, none⟩ = some (.int .u64 (r 2)) ∧ W.cell? ⟨gt, 5, none⟩ = some (.int .u64 (r 3)) ∧ W.cell? ⟨gt, 6, none⟩ = some (.int .u64 (r 4)) ∧ W.cell? ⟨gt, 7, none⟩ = some (.int .u64 (r 5)) ∧ W.cell? ⟨gt, 8, none⟩ = some (.int .u64 (r 6)) ∧ W.cell? ⟨gt, 9, none⟩ = some (.int .u64 (r 7)) ∧ W.cell? ⟨gi, 0, none⟩ = some (.int .u8 xo) ∧ W.cell? ⟨gi, 1, none⟩ = some (.int .u8 ka) ∧ W.cell? ⟨gi, 2, none⟩ = some (.int .u8 kb) ∧ W.cell? ⟨gi, 3, none⟩ = some (.int .u8 kc) ∧ W.cell? ⟨gi, 4, none⟩ = some (.int .u16 xn) ∧ W.cell? ⟨gp, 0, none⟩ = some (.pointer (some ⟨gt, 2 + ka, none⟩)) ∧ Below w.heap.size w W) → Below W.heap.size W W' → W'.cell? ⟨gt, 0, none⟩ = some (.slice A n c) ∧ W'.cell? ⟨gt, 1, none⟩ = some (.int .i64 nx) ∧ W'.cell? ⟨gt, 2, none⟩ = some (.int .u64 (r 0)) ∧ W'.cell? ⟨gt, 3, none⟩ = some (.int .u64 (r 1)) ∧ W'.cell? ⟨gt, 4, none⟩ = some (.int .u64 (r 2)) ∧ W'.cell? ⟨gt, 5, none⟩ = some (.int .u64 (r 3)) ∧ W'.cell? ⟨gt, 6, none⟩ = some (.int .u64 (r 4)) ∧ W'.cell? ⟨gt, 7, none⟩ = some (.int .u64 (r 5)) ∧ W'.cell? ⟨gt, 8, none⟩ = some (.int .u64 (r 6)) ∧ W'.cell? ⟨gt, 9, none⟩ = some (.int .u64 (r 7)) ∧ W'.cell? ⟨gi, 0, none⟩ = some (.int .u8 xo) ∧ W'.cell? ⟨gi, 1, none⟩ = some (.int .u8 ka) ∧ W'.cell? ⟨gi, 2, none⟩ = some (.int .u8 kb) ∧ W'.cell? ⟨gi, 3, none⟩ = some (.int .u8 kc) ∧ W'.cell? ⟨gi, 4, none⟩ = some (.int .u16 xn) ∧ W'.cell? ⟨gp, 0, none⟩ = some (.pointer (some ⟨gt, 2 + ka, none⟩)) ∧ Below w.heap.size w W' := fun W W' ⟨h0, h1, h2, h3, h4, h5, h6, h7, h8, h9, i0, i1, i2, i3, i4, p0, hb⟩ hbW => by
    obtain ⟨k0, k1, k2, k3, k4, k5, k6, k7, k8, k9, m0, m1, m2, m3, m4, kb'⟩ := TskAt.to (x := ⟨xo, ka, kb, kc, xn⟩) ⟨h0, h1, h2, h3, h4, h5, h6, h7, h8, h9, i0, i1, i2, i3, i4, hb⟩ hbW
    exact ⟨k0, k1, k2, k3, k4, k5, k6, k7, k8, k9, m0, m1, m2, m3, m4, keepc hbW p0, kb'⟩
  have hHeld : w.drew.cell? ⟨gt, 0, none⟩ = some (.slice A n c) ∧ w.drew.cell? ⟨gt, 1, none⟩ = some (.int .i64 nx) ∧ w.drew.cell? ⟨gt, 2, none⟩ = some (.int .u64 (r 0)) ∧ w.drew.cell? ⟨gt, 3, none⟩ = some (.int .u64 (r 1)) ∧ w.drew.cell? ⟨gt, 4, none⟩ = some (.int .u64 (r 2)) ∧ w.drew.cell? ⟨gt, 5, none⟩ = some (.int .u64 (r 3)) ∧ w.drew.cell? ⟨gt, 6, none⟩ = some (.int .u64 (r 4)) ∧ w.drew.cell? ⟨gt, 7, none⟩ = some (.int .u64 (r 5)) ∧ w.drew.cell? ⟨gt, 8, none⟩ = some (.int .u64 (r 6)) ∧ w.drew.cell? ⟨gt, 9, none⟩ = some (.int .u64 (r 7)) ∧ w.drew.cell? ⟨gi, 0, none⟩ = some (.int .u8 xo) ∧ w.drew.cell? ⟨gi, 1, none⟩ = some (.int .u8 ka) ∧ w.drew.cell? ⟨gi, 2, none⟩ = some (.int .u8 kb) ∧ w.drew.cell? ⟨gi, 3, none⟩ = some (.int .u8 kc) ∧ w.drew.cell? ⟨gi, 4, none⟩ = some (.int .u16 xn) ∧ w.drew.cell? ⟨gp, 0, none⟩ = some (.pointer (some ⟨gt, 2 + ka, none⟩)) ∧ Below w.heap.size w w.drew := hTo w w.drew (by
    obtain ⟨k0, k1, k2, k3, k4, k5, k6, k7, k8, k9, m0, m1, m2, m3, m4, kb'⟩ := hT
    exact ⟨k0, k1, k2, k3, k4, k5, k6, k7, k8, k9, m0, m1, m2, m3, m4, q0, kb'⟩) ((Below.refl _ _).drew)
  have HTO := hide hTo
  have HH := hide hHeld
  clear h hR hT q0 hTo hHeld
  go_enter Try.func50, Try.ntmps50
  go_wp2
  refine wp_region_G 11 (fun w' => w'.cell? ⟨gt, 0, none⟩ = some (.slice A n c) ∧ w'.cell? ⟨gt, 1, none⟩ = some (.int .i64 nx) ∧ w'.cell? ⟨gt, 2, none⟩ = some (.int .u64 (r 0)) ∧ w'.cell? ⟨gt, 3, none⟩ = some (.int .u64 (r 1)) ∧ w'.cell? ⟨gt, 4, none⟩ = some (.int .u64 (r 2)) ∧ w'.cell? ⟨gt, 5, none⟩ = some (.int .u64 (r 3)) ∧ w'.cell? ⟨gt, 6, none⟩ = some (.int .u64 (r 4)) ∧ w'.cell? ⟨gt, 7, none⟩ = some (.int .u64 (r 5)) ∧ w'.cell? ⟨gt, 8, none⟩ = some (.int .u64 (r 6)) ∧ w'.cell? ⟨gt, 9, none⟩ = some (.int .u64 (r 7)) ∧ w'.cell? ⟨gi, 0, none⟩ = some (.int .u8 xo) ∧ w'.cell? ⟨gi, 1, none⟩ = some (.int .u8 ka) ∧ w'.cell? ⟨gi, 2, none⟩ = some (.int .u8 kb) ∧ w'.cell? ⟨gi, 3, none⟩ = some (.int .u8 kc) ∧ w'.cell? ⟨gi, 4, none⟩ = some (.int .u16 xn) ∧ w'.cell? ⟨gp, 0, none⟩ = some (.pointer (some ⟨gt, 2 + ka, none⟩)) ∧ Below w.heap.size w w') (by kernel_rfl) ?_
  simp only [List.size_toArray, List.length_cons, List.length_nil, Nat.zero_add, Nat.reduceAdd]
  have hHeld := HH.out
  refine wpAnyG_take (i := 0) (v := ?_) rfl (by kernel_rfl) (fun _ _ _ h => h) (Or.inl ⟨by rfl, ?_⟩) hHeld ?_
  rotate_left
  · intro w' hSw
    go_simp
    try with_reducible rfl
  refine wpAnyG_take (i := 1) (v := ?_) rfl (by kernel_rfl) (fun _ _ _ h => h) (Or.inl ⟨by rfl, ?_⟩) hHeld ?_
  rotate_left
  · intro w' hSw
    go_simp
    try with_reducible rfl
  refine wpAnyG_take (i := 2) (v := ?_) rfl (by kernel_rfl) (fun _ _ _ h => h) (Or.inl ⟨by rfl, ?_⟩) hHeld ?_
  rotate_left
  · intro w' hSw
    go_simp
    try with_reducible rfl
  refine wpAnyG_take (i := 3) (v := ?_) rfl (by kernel_rfl) (fun _ _ _ h => h) (Or.inl ⟨by rfl, ?_⟩) hHeld ?_
  rotate_left
  · intro w' hSw
    go_simp
    try with_reducible rfl
  refine wpAnyG_take (i := 5) (v := ?_) rfl (by kernel_rfl) (fun _ _ _ h => h) (Or.inl ⟨by rfl, ?_⟩) hHeld ?_
  rotate_left
  · intro w' hSw
    go_simp
    try with_reducible rfl
  refine wpAnyG_take (i := 6) (v := ?_) rfl (by kernel_rfl) (fun _ _ _ h => h) (Or.inl ⟨by rfl, ?_⟩) hHeld ?_
  rotate_left
  · intro w' hSw
    go_simp
    try with_reducible rfl
  refine wpAnyG_take (i := 7) (v := ?_) rfl (by kernel_rfl) (fun _ _ _ h => h) (Or.inl ⟨by rfl, ?_⟩) hHeld ?_
  rotate_left
  · intro w' hSw
    go_simp
    try with_reducible rfl
  simp only [Act.put, List.setIfInBounds_toArray]
  refine wpAnyG_one (i := 4) (by kernel_rfl) rfl (fun K hK => ?_)
  go_simp
  refine (unhide HRG _ kb hkb).mono ?_
  rintro e w2 ⟨rfl, hbw2⟩
  have hHeld := HTO.out _ _ hHeld hbw2
  refine hK.out _ _ ⟨fun _ => hHeld, ?_⟩
  clear hK K
  refine wpAnyG_one (i := 8) (by kernel_rfl) rfl (fun K hK => ?_)
  go_simp
  refine (unhide HRG _ kc hkc).mono ?_
  rintro e w3 ⟨rfl, hbw3⟩
  have hHeld := HTO.out _ _ hHeld hbw3
  refine hK.out _ _ ⟨fun _ => hHeld, ?_⟩
  clear hK K
  refine wpAnyG_take (i := 9) (v := ?_) rfl (by kernel_rfl) (fun _ _ _ h => h) (Or.inl ⟨by rfl, ?_⟩) hHeld ?_
  rotate_left
  · intro w' hSw
    go_simp
    try with_reducible rfl
  refine wpAnyG_take (i := 10) (v := ?_) rfl (by kernel_rfl) (fun _ _ _ h => h) (Or.inl ⟨by rfl, ?_⟩) hHeld ?_
  rotate_left
  · intro w' hSw
    go_simp
    try with_reducible rfl
  have x3 := ((hTask.to ((Below.refl _ _).drew)).to hbw2).to hbw3
  have hbF := bt (bt ((Below.refl _ _).drew) hbw2) hbw3
  have tk := (x3.cell (2 + ka)).trans (tsk_get A n c nx r ka hka)
  have tf := x3.frozen (2 + ka)
  refine wpAnyG_one (i := 11) (by kernel_rfl) rfl (fun K hK => ?_)
  go_simp
  refine hK.out _ _ ⟨fun h => absurd h (by decide), ?_⟩
  clear hK K
  refine wpAnyG_done (by kernel_rfl) ?_ _
  go_end0
  exact ⟨⟨_, rfl⟩, w3, hbF, rfl⟩

set_option maxRecDepth 100000 in
set_option maxHeartbeats 400000 in
theorem clos4 (h : Doing A n c nx r gt gi gp gn ka kb kc xo xn w) (hka : ka < 8) (hkb : kb < 8) (hn1 : 0 ≤ xn) :
    Calls Try.prog 51 #[.pointer (some ⟨gt, 0, none⟩), .pointer (some ⟨gi, 0, none⟩), .pointer (some ⟨gp, 0, none⟩)] w fun e w' => (∃ v, e = .returned v) ∧ ∃ w1, Below w.heap.size w w1 ∧ w' = w1.setCell ⟨gt, 2 + ka, none⟩ (.int .u64 (shlV (r kb) xn)) := by
  have hT : TskAt w gt gi A n c nx r ⟨xo, ka, kb, kc, xn⟩ w := TskAt.of h.task h.ins (Below.refl _ _)
  have hR := fun w k hk => reg_any (A := A) (n := n) (c := c) (nx := nx) (r := r) (w := w) k hk
  simp only [tskV, tskC] at hR
  have HRG := hide hR
  have q0 := h.ptr.cell 0
  have hTask := h.task
  have hTo : ∀ W W' : World, (W.cell? ⟨gt, 0, none⟩ = some (.slice A n c) ∧ W.cell? ⟨gt, 1, none⟩ = some (.int .i64 nx) ∧ W.cell? ⟨gt, 2, none⟩ = some (.int .u64 (r 0)) ∧ W.cell? ⟨gt, 3, none⟩ = some (.int .u64 (r 1)) ∧ W.cell? ⟨gt, 4, none⟩ = some (.int .u64 (r 2)) ∧ W.cell? ⟨gt, 5, none⟩ = some (.int .u64 (r 3)) ∧ W.cell? ⟨gt, 6, none⟩ = some (.int .u64 (r 4)) ∧ W.cell? ⟨gt, 7, none⟩ = some (.int .u64 (r 5)) ∧ W.cell? ⟨gt, 8, none⟩ = some (.int .u64 (r 6)) ∧ W.cell? ⟨gt, 9, none⟩ = some (.int .u64 (r 7)) ∧ W.cell? ⟨gi, 0, none⟩ = some (.int .u8 xo) ∧ W.cell? ⟨gi, 1, none⟩ = some (.int .u8 ka) ∧ W.cell? ⟨gi, 2, none⟩ = some (.int .u8 kb) ∧ W.cell? ⟨gi, 3, none⟩ = some (.int .u8 kc) ∧ W.cell? ⟨gi, 4, none⟩ = some (.int .u16 xn) ∧ W.cell? ⟨gp, 0, none⟩ = some (.pointer (some ⟨gt, 2 + ka, none⟩)) ∧ Below w.heap.size w W) → Below W.heap.size W W' → W'.cell? ⟨gt, 0, none⟩ = some (.slice A n c) ∧ W'.cell? ⟨gt, 1, none⟩ = some (.int .i64 nx) ∧ W'.cell? ⟨gt, 2, none⟩ = some (.int .u64 (r 0)) ∧ W'.cell? ⟨gt, 3, none⟩ = some (.int .u64 (r 1)) ∧ W'.cell? ⟨gt, 4, none⟩ = some (.int .u64 (r 2)) ∧ W'.cell? ⟨gt, 5, none⟩ = some (.int .u64 (r 3)) ∧ W'.cell? ⟨gt, 6, none⟩ = some (.int .u64 (r 4)) ∧ W'.cell? ⟨gt, 7, none⟩ = some (.int .u64 (r 5)) ∧ W'.cell? ⟨gt, 8, none⟩ = some (.int .u64 (r 6)) ∧ W'.cell? ⟨gt, 9, none⟩ = some (.int .u64 (r 7)) ∧ W'.cell? ⟨gi, 0, none⟩ = some (.int .u8 xo) ∧ W'.cell? ⟨gi, 1, none⟩ = some (.int .u8 ka) ∧ W'.cell? ⟨gi, 2, none⟩ = some (.int .u8 kb) ∧ W'.cell? ⟨gi, 3, none⟩ = some (.int .u8 kc) ∧ W'.cell? ⟨gi, 4, none⟩ = some (.int .u16 xn) ∧ W'.cell? ⟨gp, 0, none⟩ = some (.pointer (some ⟨gt, 2 + ka, none⟩)) ∧ Below w.heap.size w W' := fun W W' ⟨h0, h1, h2, h3, h4, h5, h6, h7, h8, h9, i0, i1, i2, i3, i4, p0, hb⟩ hbW => by
    obtain ⟨k0, k1, k2, k3, k4, k5, k6, k7, k8, k9, m0, m1, m2, m3, m4, kb'⟩ := TskAt.to (x := ⟨xo, ka, kb, kc, xn⟩) ⟨h0, h1, h2, h3, h4, h5, h6, h7, h8, h9, i0, i1, i2, i3, i4, hb⟩ hbW
    exact ⟨k0, k1, k2, k3, k4, k5, k6, k7, k8, k9, m0, m1, m2, m3, m4, keepc hbW p0, kb'⟩
  have hHeld : w.drew.cell? ⟨gt, 0, none⟩ = some (.slice A n c) ∧ w.drew.cell? ⟨gt, 1, none⟩ = some (.int .i64 nx) ∧ w.drew.cell? ⟨gt, 2, none⟩ = some (.int .u64 (r 0)) ∧ w.drew.cell? ⟨gt, 3, none⟩ = some (.int .u64 (r 1)) ∧ w.drew.cell? ⟨gt, 4, none⟩ = some (.int .u64 (r 2)) ∧ w.drew.cell? ⟨gt, 5, none⟩ = some (.int .u64 (r 3)) ∧ w.drew.cell? ⟨gt, 6, none⟩ = some (.int .u64 (r 4)) ∧ w.drew.cell? ⟨gt, 7, none⟩ = some (.int .u64 (r 5)) ∧ w.drew.cell? ⟨gt, 8, none⟩ = some (.int .u64 (r 6)) ∧ w.drew.cell? ⟨gt, 9, none⟩ = some (.int .u64 (r 7)) ∧ w.drew.cell? ⟨gi, 0, none⟩ = some (.int .u8 xo) ∧ w.drew.cell? ⟨gi, 1, none⟩ = some (.int .u8 ka) ∧ w.drew.cell? ⟨gi, 2, none⟩ = some (.int .u8 kb) ∧ w.drew.cell? ⟨gi, 3, none⟩ = some (.int .u8 kc) ∧ w.drew.cell? ⟨gi, 4, none⟩ = some (.int .u16 xn) ∧ w.drew.cell? ⟨gp, 0, none⟩ = some (.pointer (some ⟨gt, 2 + ka, none⟩)) ∧ Below w.heap.size w w.drew := hTo w w.drew (by
    obtain ⟨k0, k1, k2, k3, k4, k5, k6, k7, k8, k9, m0, m1, m2, m3, m4, kb'⟩ := hT
    exact ⟨k0, k1, k2, k3, k4, k5, k6, k7, k8, k9, m0, m1, m2, m3, m4, q0, kb'⟩) ((Below.refl _ _).drew)
  have HTO := hide hTo
  have HH := hide hHeld
  clear h hR hT q0 hTo hHeld
  go_enter Try.func51, Try.ntmps51
  go_wp2
  refine wp_region_G 9 (fun w' => w'.cell? ⟨gt, 0, none⟩ = some (.slice A n c) ∧ w'.cell? ⟨gt, 1, none⟩ = some (.int .i64 nx) ∧ w'.cell? ⟨gt, 2, none⟩ = some (.int .u64 (r 0)) ∧ w'.cell? ⟨gt, 3, none⟩ = some (.int .u64 (r 1)) ∧ w'.cell? ⟨gt, 4, none⟩ = some (.int .u64 (r 2)) ∧ w'.cell? ⟨gt, 5, none⟩ = some (.int .u64 (r 3)) ∧ w'.cell? ⟨gt, 6, none⟩ = some (.int .u64 (r 4)) ∧ w'.cell? ⟨gt, 7, none⟩ = some (.int .u64 (r 5)) ∧ w'.cell? ⟨gt, 8, none⟩ = some (.int .u64 (r 6)) ∧ w'.cell? ⟨gt, 9, none⟩ = some (.int .u64 (r 7)) ∧ w'.cell? ⟨gi, 0, none⟩ = some (.int .u8 xo) ∧ w'.cell? ⟨gi, 1, none⟩ = some (.int .u8 ka) ∧ w'.cell? ⟨gi, 2, none⟩ = some (.int .u8 kb) ∧ w'.cell? ⟨gi, 3, none⟩ = some (.int .u8 kc) ∧ w'.cell? ⟨gi, 4, none⟩ = some (.int .u16 xn) ∧ w'.cell? ⟨gp, 0, none⟩ = some (.pointer (some ⟨gt, 2 + ka, none⟩)) ∧ Below w.heap.size w w') (by kernel_rfl) ?_
  simp only [List.size_toArray, List.length_cons, List.length_nil, Nat.zero_add, Nat.reduceAdd]
  have hHeld := HH.out
  refine wpAnyG_take (i := 0) (v := ?_) rfl (by kernel_rfl) (fun _ _ _ h => h) (Or.inl ⟨by rfl, ?_⟩) hHeld ?_
  rotate_left
  · intro w' hSw
    go_simp
    try with_reducible rfl
  refine wpAnyG_take (i := 1) (v := ?_) rfl (by kernel_rfl) (fun _ _ _ h => h) (Or.inl ⟨by rfl, ?_⟩) hHeld ?_
  rotate_left
  · intro w' hSw
    go_simp
    try with_reducible rfl
  refine wpAnyG_take (i := 2) (v := ?_) rfl (by kernel_rfl) (fun _ _ _ h => h) (Or.inl ⟨by rfl, ?_⟩) hHeld ?_
  rotate_left
  · intro w' hSw
    go_simp
    try with_reducible rfl
  refine wpAnyG_take (i := 3) (v := ?_) rfl (by kernel_rfl) (fun _ _ _ h => h) (Or.inl ⟨by rfl, ?_⟩) hHeld ?_
  rotate_left
  · intro w' hSw
    go_simp
    try with_reducible rfl
  refine wpAnyG_take (i := 5) (v := ?_) rfl (by kernel_rfl) (fun _ _ _ h => h) (Or.inl ⟨by rfl, ?_⟩) hHeld ?_
  rotate_left
  · intro w' hSw
    go_simp
    try with_reducible rfl
  refine wpAnyG_take (i := 6) (v := ?_) rfl (by kernel_rfl) (fun _ _ _ h => h) (Or.inl ⟨by rfl, ?_⟩) hHeld ?_
  rotate_left
  · intro w' hSw
    go_simp
    try with_reducible rfl
  simp only [Act.put, List.setIfInBounds_toArray]
  refine wpAnyG_one (i := 4) (by kernel_rfl) rfl (fun K hK => ?_)
  go_simp
  refine (unhide HRG _ kb hkb).mono ?_
  rintro e w2 ⟨rfl, hbw2⟩
  have hHeld := HTO.out _ _ hHeld hbw2
  refine hK.out _ _ ⟨fun _ => hHeld, ?_⟩
  clear hK K
  have hsh := shift_shlV .u16 (r kb) xn hn1
  refine wpAnyG_take (i := 7) (v := ?_) rfl (by kernel_rfl) (fun _ _ _ h => h) (Or.inl ⟨by rfl, ?_⟩) hHeld ?_
  rotate_left
  · intro w' hSw
    go_simp
    try with_reducible rfl
  refine wpAnyG_take (i := 8) (v := ?_) rfl (by kernel_rfl) (fun _ _ _ h => h) (Or.inl ⟨by rfl, ?_⟩) hHeld ?_
  rotate_left
  · intro w' hSw
    go_simp
    try with_reducible rfl
  have x3 := (hTask.to ((Below.refl _ _).drew)).to hbw2
  have hbF := bt ((Below.refl _ _).drew) hbw2
  have tk := (x3.cell (2 + ka)).trans (tsk_get A n c nx r ka hka)
  have tf := x3.frozen (2 + ka)
  refine wpAnyG_one (i := 9) (by kernel_rfl) rfl (fun K hK => ?_)
  go_simp
  refine hK.out _ _ ⟨fun h => absurd h (by decide), ?_⟩
  clear hK K
  refine wpAnyG_done (by kernel_rfl) ?_ _
  go_end0
  exact ⟨⟨_, rfl⟩, w2, hbF, rfl⟩
end
end Go.Proofs.Ytmiagijgecgfoaa
