/-
  Proved: whatever the script, the cuts, the place and the change, bailiwicklaw27.JournalTears returns true, and its arguments read as before. No condition beside the statement's own.
-/
import Derived.Test.YtnhnofiimidagaaJFrame
import Derived.Test.YtnhnofiimidagaaJTears
namespace Go.Proofs.Ytnhnofiimidagaa.journalTears
open Go.ChangeShapes Go.WideShapes Go.ChangeAt Go.RowKit

set_option maxRecDepth 100000 in
theorem lifted (os : Os) (started : os.Started) (H : Type) (enc : TypeId × Value → H) :
    ReturnsInHanded {} Try.checked os 11 .any (Rows.journalTearsSpec.pre6 enc Try.prog Try.f11 Rows.journalTearsRow.domain false) (Rows.journalTearsSpec.post enc Try.prog Try.f11 false true false false) := by
  refine returnsInHanded_of_change_sized (C := Try.checked) Try.own started (by kernel_rfl) Try.func11
    (ChangeSpec.witness6 (enc := enc) (C := Try.checked) false ⟨#[], #[.agg #[.int .i64 0, .slice none 0 0, .string ByteArray.empty], .slice none 0 0, .int .u16 0, .int .u8 0], []⟩ 8 (by kernel_rfl) (by kernel_rfl) (by kernel_rfl) (by kernel_rfl)) ?_
  intro W base args ds gs before hval0 hW _ hsz0 _
  have hsz : (DataW.weightsEach Try.prog (Try.f11.params.toList ++ Rows.journalTearsSpec.plain.varTypes Try.prog) (ds ++ gs)).all (· ≤ reachBytes) = true := hsz0
  clear hsz0
  have hval : ∀ (j : Nat) t v, Try.f11.params[j]? = some t → args[j]? = some v → Value.okWide Try.prog W .any base t v := hval0
  have hW' := hW
  obtain ⟨p, q, hA0, hV, rfl, _, _⟩ := hW
  have hA : DataW.TrodAll enc Try.prog W 0 (fun _ => true) true Try.f11.params.toList args.toList ds p := hA0
  rw [Try.params11] at hA hval hsz
  obtain ⟨v0, v1, v2, v3, d0, d1, d2, d3, p0, p1, p2, p3, rfl, rfl, rfl, h0, h1, h2, h3⟩ := trodAll_four hA
  obtain ⟨rfl, rfl⟩ := trodVars_none hV
  obtain ⟨pg, A, n, cap, ps, pk, rfl, hr⟩ := open_rscr (hval 0 44 v0 rfl rfl) h0
  obtain ⟨A2, m, c2, cl, rfl, hr2, hn⟩ := open_bytes (hval 1 47 v1 rfl rfl) h1
  obtain ⟨en, rfl, rfl, rfl, hen⟩ := open_int Try.underlying39 (hval 2 39 v2 rfl rfl) h2
  obtain ⟨he0, he1⟩ := wf_u16 hen
  obtain ⟨ch, rfl, rfl, rfl, hch⟩ := open_int Try.underlying5 (hval 3 5 v3 rfl rfl) h3
  obtain ⟨hc0, hc1⟩ := wf_u8 hch
  have hz := by8_val ch hc0 hc1
  clear hA0 hval0
  have hm : m ≤ 140737488355328 := by
    rcases hn with rfl | ⟨elems, spare, rfl, rfl⟩
    · omega
    · exact slice_len_le hsz (j := 1) (t := 47) (e := 5) rfl rfl Try.underlying47 Try.bytesU8
  have hall : Calls Try.prog 11 #[rscrV pg A n cap pk, .slice A2 m c2, .int .u16 en, .int .u8 ch] W fun e w' => e = .returned (.bool true) ∧ Below W.heap.size W w' := by
    cases hg : greatS ps pk with
    | true => exact tears_great hr en ch (.inl hg)
    | false =>
      cases hmay : mayS pg ps pk with
      | false => exact tears_great hr en ch (.inr ⟨hg, hmay⟩)
      | true =>
        have := tears_yes hr hr2 hm en (by8 ch) he0 he1 hg hmay (n := n) (c := cap) (c2 := c2)
        rw [hz] at this
        exact this
  refine hall.mono fun e W' ⟨he, hb⟩ => ?_
  subst he
  exact ⟨_, rfl, law_post Try.laidOut (by kernel_rfl) rfl Try.underlying4 rfl rfl rfl rfl hW' hb⟩

theorem holds : Rows.JournalTearsSaid :=
  OpenClaim.holds_of_wide 11 Try.f11 rfl rfl rfl rfl rfl rfl rfl ⟨rfl, rfl, rfl, rfl, rfl⟩ rfl rfl rfl rfl rfl (by kernel_rfl) Try.func11 (by kernel_rfl)
    (of_decide_eq_true (by kernel_rfl)) (by unfold Func.isWrapper; rw [if_neg (of_decide_eq_false (by kernel_rfl))]; exact ⟨rfl, rfl⟩)
    (fun os started H enc _ => lifted os started H enc)
end Go.Proofs.Ytnhnofiimidagaa.journalTears
