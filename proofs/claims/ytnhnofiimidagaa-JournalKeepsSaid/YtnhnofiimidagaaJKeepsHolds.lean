/-
  Proved: whatever the script, the cuts and the end, bailiwicklaw27.JournalKeeps returns true, and its arguments read as before. No condition beside the statement's own.
-/
import Derived.Test.YtnhnofiimidagaaJFrame
import Derived.Test.YtnhnofiimidagaaJKeeps
namespace Go.Proofs.Ytnhnofiimidagaa.journalKeeps
open Go.ChangeShapes Go.WideShapes Go.ChangeAt Go.RowKit

set_option maxRecDepth 100000 in
theorem lifted (os : Os) (started : os.Started) (H : Type) (enc : TypeId × Value → H) :
    ReturnsInHanded {} Try.checked os 10 .any (Rows.journalKeepsSpec.pre6 enc Try.prog Try.f10 Rows.journalKeepsRow.domain false) (Rows.journalKeepsSpec.post enc Try.prog Try.f10 false true false false) := by
  refine returnsInHanded_of_change_sized (C := Try.checked) Try.own started (by kernel_rfl) Try.func10
    (ChangeSpec.witness6 (enc := enc) (C := Try.checked) false ⟨#[], #[.agg #[.int .i64 0, .slice none 0 0, .string ByteArray.empty], .slice none 0 0, .int .u16 0], []⟩ 8 (by kernel_rfl) (by kernel_rfl) (by kernel_rfl) (by kernel_rfl)) ?_
  intro W base args ds gs before hval0 hW _ hsz0 _
  have hsz : (DataW.weightsEach Try.prog (Try.f10.params.toList ++ Rows.journalKeepsSpec.plain.varTypes Try.prog) (ds ++ gs)).all (· ≤ reachBytes) = true := hsz0
  clear hsz0
  have hval : ∀ (j : Nat) t v, Try.f10.params[j]? = some t → args[j]? = some v → Value.okWide Try.prog W .any base t v := hval0
  have hW' := hW
  obtain ⟨p, q, hA0, hV, rfl, _, _⟩ := hW
  have hA : DataW.TrodAll enc Try.prog W 0 (fun _ => true) true Try.f10.params.toList args.toList ds p := hA0
  rw [Try.params10] at hA hval hsz
  obtain ⟨v0, v1, v2, d0, d1, d2, p0, p1, p2, rfl, rfl, rfl, h0, h1, h2⟩ := trodAll_three hA
  obtain ⟨rfl, rfl⟩ := trodVars_none hV
  obtain ⟨pg, A, n, cap, ps, pk, rfl, hr⟩ := open_rscr (hval 0 44 v0 rfl rfl) h0
  obtain ⟨A2, m, c2, cl, rfl, hr2, hn⟩ := open_bytes (hval 1 47 v1 rfl rfl) h1
  obtain ⟨en, rfl, rfl, rfl, hen⟩ := open_int Try.underlying39 (hval 2 39 v2 rfl rfl) h2
  obtain ⟨he0, he1⟩ := wf_u16 hen
  clear hA0 hval0
  have hm : m ≤ 140737488355328 := by
    rcases hn with rfl | ⟨elems, spare, rfl, rfl⟩
    · omega
    · exact slice_len_le hsz (j := 1) (t := 47) (e := 5) rfl rfl Try.underlying47 Try.bytesU8
  have hall : Calls Try.prog 10 #[rscrV pg A n cap pk, .slice A2 m c2, .int .u16 en] W fun e w' => e = .returned (.bool true) ∧ Below W.heap.size W w' := by
    cases hg : greatS ps pk with
    | true => exact keeps_great hr en (.inl hg)
    | false =>
      cases hmay : mayS pg ps pk with
      | false => exact keeps_great hr en (.inr ⟨hg, hmay⟩)
      | true => exact keeps_yes hr hr2 hm en he0 he1 hg hmay
  refine hall.mono fun e W' ⟨he, hb⟩ => ?_
  subst he
  exact ⟨_, rfl, law_post Try.laidOut (by kernel_rfl) rfl Try.underlying4 rfl rfl rfl rfl hW' hb⟩

theorem holds : Rows.JournalKeepsSaid :=
  OpenClaim.holds_of_wide 10 Try.f10 rfl rfl rfl rfl rfl rfl rfl ⟨rfl, rfl, rfl, rfl, rfl⟩ rfl rfl rfl rfl rfl (by kernel_rfl) Try.func10 (by kernel_rfl)
    (of_decide_eq_true (by kernel_rfl)) (by unfold Func.isWrapper; rw [if_neg (of_decide_eq_false (by kernel_rfl))]; exact ⟨rfl, rfl⟩)
    (fun os started H enc _ => lifted os started H enc)
end Go.Proofs.Ytnhnofiimidagaa.journalKeeps
