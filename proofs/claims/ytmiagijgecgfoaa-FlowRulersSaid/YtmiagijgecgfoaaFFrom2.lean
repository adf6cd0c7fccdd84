/-
  The walk of flow's graph.from, whole; reached, loop, of.
-/
import Derived.Test.YtmiagijgecgfoaaFFrom
import Derived.Deep.MidRow
import Derived.Laws.EntriesVeiled
import Derived.Laws.CopyOwn
namespace Go.Proofs.Ytmiagijgecgfoaa
open Go.RowKit

section
variable {P : Program} {w : World} {g : Nat} {cs cs' : Array Value} {ty : TypeId} {d : TypeDesc}
theorem Bx.listLoad (h : Bx w g cs) {ops : Array Oper} {rest : List Oper} {o : Oper} {a : Act} {Q : Exit → Act → World → Prop} (hgd : o.guard = none) (x : Operand) (ho : o.op = .load ty x)
    (hx : a.eval x = .pointer (some ⟨g, 0, none⟩)) (hu : P.underlying ty = some d) (hd : (match d with | .struct _ | .array _ _ => true | _ => false) = true) (hi : (P.info? ty).map (·.size) = some cs.size)
    (hk : wpList P ops Q rest (a.put o.dst (.agg cs)) w) : wpList P ops Q (o :: rest) a w := by
  obtain ⟨t, h⟩ := h
  exact wpList_load_row hgd ty x ho g hx t cs (0, 0) d h hu hd hi hk
theorem Bx.listStore (h : Bx w g cs) {ops : Array Oper} {rest : List Oper} {o : Oper} {a : Act} {Q : Exit → Act → World → Prop} (hgd : o.guard = none) (x y : Operand) (ho : o.op = .store ty x y)
    (hx : a.eval x = .pointer (some ⟨g, 0, none⟩)) (hy : a.eval y = .agg cs') (hi : (P.info? ty).map (·.size) = some cs'.size) (hold : cs.size = cs'.size) (h1 : cs'.all (·.oneCell') = true)
    (hk : wpList P ops Q rest (a.put o.dst undef) (w.setRow g cs')) : wpList P ops Q (o :: rest) a w := by
  obtain ⟨t, h⟩ := h
  exact wpList_store_row hgd ty x y ho g cs' hx hy t cs h hi hold h1 hk
theorem Bx.load (h : Bx w g cs) (hu : P.underlying ty = some d) (hd : (match d with | .struct _ | .array _ _ => true | _ => false) = true) (hi : (P.info? ty).map (·.size) = some cs.size) :
    (Instr.loadAt ty (.pointer (some ⟨g, 0, none⟩))).run P w = .ok (.agg cs) w := by
  obtain ⟨t, h⟩ := h
  simp only [Instr.loadAt, Instr.sureAddr, Sem.run_bind, Sem.run_pure, Result.andThen_ok, run_loadVar_row w g t ty cs (0, 0) d h hu hd hi]
theorem Bx.store (h : Bx w g cs) (hi : (P.info? ty).map (·.size) = some cs'.size) (ho : cs.size = cs'.size) (h1 : cs'.all (·.oneCell') = true) :
    (Instr.storeAt ty (.pointer (some ⟨g, 0, none⟩)) (.agg cs')).run P w = .ok () (w.setRow g cs') := by
  obtain ⟨t, h⟩ := h
  simp only [Instr.storeAt, Instr.sureAddr, Sem.run_bind, Sem.run_pure, Result.andThen_ok, run_storeVar_row w g t ty cs cs' h hi ho h1]
theorem Bx.row (h : Bx w g cs) (cs' : Array Value) : Bx (w.setRow g cs') g cs' := by
  obtain ⟨t, h⟩ := h
  exact ⟨t, setRow_heap w g cs cs' t (0, 0) h⟩
theorem Bx.rowfar {g' : Nat} (h : Bx w g cs) (hne : g ≠ g') (cs' : Array Value) : Bx (w.setRow g' cs') g cs := by
  obtain ⟨t, h⟩ := h
  exact ⟨t, (setRow_other _ _ _ _ hne).trans h⟩
theorem Bx.results {fn : Func} {p : Tmp} (h : Bx w g cs) (hr : fn.results = #[.cell p ty]) (tmps : Array Value) (hp : tmps.getD p undef = .pointer (some ⟨g, 0, none⟩)) (hu : P.underlying ty = some d)
    (hd : (match d with | .struct _ | .array _ _ => true | _ => false) = true) (hi : (P.info? ty).map (·.size) = some cs.size) : (results fn tmps).run P w = .ok (.agg cs) w := by
  obtain ⟨t, h⟩ := h
  exact results_cell_row hr tmps w g t cs (0, 0) d hp h hu hd hi
end
theorem mC_one (m : Nat → Bool) : (mC m).all (·.oneCell') = true := by
  rw [Array.all_eq_true_iff_forall_mem]
  intro x hx
  unfold mC at hx
  simp only [List.mem_toArray, List.mem_map] at hx
  obtain ⟨i, _, rfl⟩ := hx
  rfl
theorem sizePl (m : Nat → Bool) : (Try.prog.info? 115).map (·.size) = some (mC m).size := by
  rw [mC_size]
  kernel_rfl
theorem zeros115 : Try.zeroCells115 = mC (fun _ => false) := by kernel_rfl
def placesV (m : Nat → Bool) : Value := .agg (mC m)

section
variable {l : List Ins} {A A2 : Option Addr} {n c k c2 : Nat} {w : World} {out : Int} {ps : List Nat}

def FromOut (l : List Ins) (out : Int) (ps : List Nat) (w : World) (e : Ending) (w' : World) : Prop :=
  ∃ m, e = .returned (placesV m) ∧ (∀ i, m i = true ↔ ∃ a ∈ ps, RE l out a i) ∧ Below w.heap.size w w'

set_option maxRecDepth 100000 in
set_option maxHeartbeats 4000000 in
theorem from_any (hp : Prog l) (hr : Rd w w.heap.size 5 A n (l.flatMap Ins.cu)) (h2 : Rd w w.heap.size 1 A2 k (ps.map intV)) (hps : ∀ p ∈ ps, p ≤ n) (hk : k ≤ 1000000) :
    Calls Try.prog 64 #[.slice A n c, .slice A2 k c2, .int .i64 out] w (FromOut l out ps w) := by
  have hln := hr.lenU
  have HR := hide hr
  have HR2 := hide h2
  have HP := hide hp
  have HPS := hide hps
  have HLN := Lib.hid hln
  clear hr h2 hp hps hln
  go_enter Try.func64, Try.ntmps64
  go_upto_region 4 with fail
  refine nameW ?_
  intro W hW
  rw [zeros115] at hW
  have hz1 : W.heap.size = w.heap.size + 5 := by rw [hW]; simp
  have hb : Below w.heap.size w W := by rw [hW]; exact (((((Below.refl _ _).alloc (Nat.le_refl _) _).alloc (by simp) _).alloc (by simp; omega) _).alloc (by simp; omega) _).alloc (by simp; omega) _
  have b0 : Bx W w.heap.size #[.slice A n c] := by rw [hW]; exact (((((Bx.new _ _ _ _ rfl).alloc _).alloc _).alloc _).alloc _)
  have b1 : Bx W (w.heap.size + 1) #[.int .i64 out] := by rw [hW]; exact ((((Bx.new _ _ _ _ (by simp)).alloc _).alloc _).alloc _)
  have b2 : Bx W (w.heap.size + 1 + 1) (mC fun _ => false) := by rw [hW]; exact (((Bx.new _ _ _ _ (by simp)).alloc _).alloc _)
  have b3 : Bx W (w.heap.size + 1 + 1 + 1) (mC fun _ => false) := by rw [hW]; exact ((Bx.new _ _ _ _ (by simp)).alloc _)
  have b4 : Bx W (w.heap.size + 1 + 1 + 1 + 1) #[.func (.func 70) #[] #[.pointer (some ⟨w.heap.size + 1, 0, none⟩), .pointer (some ⟨w.heap.size + 1 + 1 + 1, 0, none⟩), .pointer (some ⟨w.heap.size, 0, none⟩), .pointer (some ⟨w.heap.size + 1 + 1 + 1 + 1, 0, none⟩)]] := by rw [hW]; exact Bx.new _ _ _ _ (by simp)
  have hF : FL w w.heap.size (w.heap.size + 1) (w.heap.size + 1 + 1 + 1) (w.heap.size + 1 + 1 + 1 + 1) A n c out (fun _ => false) W := ⟨b0, b1, b3, b4, hb⟩
  have HI := hide (⟨DfsL.nil l out (fun _ => false), hF⟩ : DfsL l out [] (fun _ => false) (fun _ => false) ∧ _)
  have HB2 := hide b2
  have hrd := (((unhide HR2).below hb).mono hb.size)
  have HRD := hide (fun (W' : World) (hb : Below w.heap.size w W') => (unhide HR2).below hb)
  clear hW hb b0 b1 b2 b3 b4 hF hrd
  go_wp2
  go_loopw [14] (fun i wr => ∃ (j : Nat) (m2 : Nat → Bool), j ≤ k ∧ i = .int .i64 j ∧ (DfsL l out (ps.take j) (fun _ => false) m2 ∧ FL w w.heap.size (w.heap.size + 1) (w.heap.size + 1 + 1 + 1) (w.heap.size + 1 + 1 + 1 + 1) A n c out m2 wr) ∧ W.grownBy wr (some (w.heap.size + 1 + 1 + 1))) (fun i _ => k - (intOf i).toNat)
  case atStart => exact ⟨0, fun _ => false, Nat.zero_le _, rfl, unhide HI, grown_refl _ _⟩
  case round =>
    clear HI
    obtain ⟨j, m2, hj, rfl, ⟨hD, hF2⟩, hg2⟩ := hrel
    have hlps : ps.length = k := by have := (unhide HR2).1; simpa using this
    by_cases hlt : j < k
    · obtain ⟨b2, o2, rfl, hb2b, hcs⟩ := ((unhide HRD) _ hF2.b).2 (by omega)
      have hjN : j < ps.length := by omega
      obtain ⟨x, hx⟩ : ∃ x, ps[j]? = some x := ⟨_, List.getElem?_eq_getElem hjN⟩
      have q0 := hcs j (intV x) (by rw [List.getElem?_map, hx]; rfl)
      have hxn := (unhide HPS) x (mem_of_get hx)
      have hts := take_snoc hx
      have hw0 := hF2.wk.cell 0
      have HDD := hide hD
      have HF2 := hide hF2
      have HG2 := hide hg2
      have HTS := Lib.hid hts
      have HLP := Lib.hid hlps
      simp only [intV] at q0
      clear hD hF2 hg2 hcs hx hts hjN hlps
      go_wp2_with fail
      refine (walk_any HP.out HLN.out (unhide HR) (by omega) (by omega) (by omega) (by omega) _ m2 x wr (Nat.le_refl _) hxn (unhide HF2)).mono ?_
      rintro e w3 ⟨⟨v3, rfl⟩, m3, hD3, hF3, hg3⟩
      have hDD := (unhide HDD).snoc hD3
      rw [← HTS.out] at hDD
      have HD4 := hide hDD
      have HF4 := hide hF3
      have HG5 := hide (grown_trans (unhide HG2) hg3)
      clear hDD hD3 hF3 hg3 q0 hw0
      go_wp2
      go_roundw
      case rel => exact ⟨j + 1, m3, by omega, by go_num, ⟨unhide HD4, unhide HF4⟩, unhide HG5⟩
      case measure => simp [intOf]; omega
    · have e1 : ps.take j = ps := List.take_of_length_le (by omega)
      rw [e1] at hD
      have HDD := hide (fun i => DfsL.iff hD i)
      have hb2 := (unhide HB2).grown hg2 (by simp)
      have hbx := hb2.row (mC m2)
      have hbb := below_setRow hF2.b (show w.heap.size ≤ w.heap.size + 1 + 1 by omega) (mC m2)
      have HBX := hide hbx
      have HBB := hide hbb
      go_upto_region 9 with fail
      refine wp_region_lit ?_
      refine hF2.mt.listLoad rfl _ rfl rfl Try.underlying115 rfl (sizePl m2) ?_
      refine hb2.listStore (cs' := mC m2) rfl _ _ rfl rfl rfl (sizePl m2) (by rw [mC_size, mC_size]) (mC_one m2) ?_
      clear hD hF2 hg2 e1 hb2 hbx hbb hlps
      go_wp2
      refine bodyPost_ret ((unhide HBX).results rfl _ rfl Try.underlying115 rfl (sizePl m2)) rfl ?_
      exact ⟨m2, rfl, HDD.out, HBB.out⟩
end
end Go.Proofs.Ytmiagijgecgfoaa
