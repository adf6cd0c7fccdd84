/-
  No cell of these rows narrows 'for every input' (looked for: loops, veiled, ifaces, maps, wideKeys, modest, calm, conditions, laid).
  DERIVED. THE GIVEN ROWS OF THIS SEAT. 8 by the template 'for every input the law returns true; each argument reads behind the call as it read before'; 0 by the template 'total and deterministic' (their statements: YtmiagijgecgfoaaTotals.lean).
  GIVEN WITH THE SEED: the statements are not yours to turn. If you find one false, say at which input.
  Laid BY PROGRAM, IN A SANDBOX (cutbox-rows.mjs): the forced cells as the released guide's own fill.sh prints them over the translation 3ee9604e811fc71b… (all of the seat's roots in one cut). By AI agents, Wed Nov 11 2026. No macro, syntax, notation, axiom, sorry.
-/
import Derived.Test.YtmiagijgecgfoaaChecked
import GoSem.Claim
import GoSem.ClaimJoined
import GoSem.ClaimMapViews
import Derived.JoinedTies
import Derived.KernelRfl
namespace Go.Proofs.Ytmiagijgecgfoaa
/- THE CELL 'sum', in the pinned program and in every row, IS THE sha256 OF THE DUMP (.gsa) THAT YtmiagijgecgfoaaProg.lean LOADS. Nothing in Lean hashes anything: it is a label: what it is worth is what the hold of that sum in a sandbox is worth. -/
noncomputable def Try.pinned : Pinned := { name := "ytmiagijgecgfoaa", sum := "3ee9604e811fc71b3b818d994ec292cccd5038d87a8c7cc290500ec943849193", checked := Try.checked }
namespace Rows
def none {H : Type} : Left H := { results := [], args := [] }

/-- 'bailiwicklaw14.TaskPlays': WHATEVER THE INPUT: true; the input reads as it did. -/
def taskPlaysSpec : ChangeSpec := { name := "taskPlays", fn := fun _ => fun
  | [d1, d2] => { results := [.lit (.bool true)], args := [d1, d2] }
  | _ => none }
def taskPlaysRow : OpenClaim := { program := "ytmiagijgecgfoaa", sum := "3ee9604e811fc71b3b818d994ec292cccd5038d87a8c7cc290500ec943849193", func := "bailiwick/bailiwicklaw14.TaskPlays", spec := "taskPlays", unfollowed := true, recurses := true, apart := false }
def TaskPlaysSaid : Prop := taskPlaysRow.holds Try.pinned (OpenSpec.ofChange taskPlaysSpec)

/-- ITS FALSE NEIGHBOUR: 'it returns false'. Refute it at one input. -/
def taskPlaysWrong : ChangeSpec := { name := "taskPlays", fn := fun _ => fun
  | [d1, d2] => { results := [.lit (.bool false)], args := [d1, d2] }
  | _ => none }
def TaskPlaysWrongFalsely : Prop := taskPlaysRow.holds Try.pinned (OpenSpec.ofChange taskPlaysWrong)

/-- 'bailiwicklaw14.TaskGoes': WHATEVER THE INPUT: true; the input reads as it did. -/
def taskGoesSpec : ChangeSpec := { name := "taskGoes", fn := fun _ => fun
  | [d1, d2] => { results := [.lit (.bool true)], args := [d1, d2] }
  | _ => none }
def taskGoesRow : OpenClaim := { program := "ytmiagijgecgfoaa", sum := "3ee9604e811fc71b3b818d994ec292cccd5038d87a8c7cc290500ec943849193", func := "bailiwick/bailiwicklaw14.TaskGoes", spec := "taskGoes", unfollowed := true, recurses := true, apart := false }
def TaskGoesSaid : Prop := taskGoesRow.holds Try.pinned (OpenSpec.ofChange taskGoesSpec)

/-- ITS FALSE NEIGHBOUR: 'it returns false'. Refute it at one input. -/
def taskGoesWrong : ChangeSpec := { name := "taskGoes", fn := fun _ => fun
  | [d1, d2] => { results := [.lit (.bool false)], args := [d1, d2] }
  | _ => none }
def TaskGoesWrongFalsely : Prop := taskGoesRow.holds Try.pinned (OpenSpec.ofChange taskGoesWrong)

/-- 'bailiwicklaw24.FlowLoops': WHATEVER THE INPUT: true; the input reads as it did. -/
def flowLoopsSpec : ChangeSpec := { name := "flowLoops", fn := fun _ => fun
  | [d] => { results := [.lit (.bool true)], args := [d] }
  | _ => none }
def flowLoopsRow : OpenClaim := { program := "ytmiagijgecgfoaa", sum := "3ee9604e811fc71b3b818d994ec292cccd5038d87a8c7cc290500ec943849193", func := "bailiwick/bailiwicklaw24.FlowLoops", spec := "flowLoops", unfollowed := true, recurses := true, apart := false }
def FlowLoopsSaid : Prop := flowLoopsRow.holds Try.pinned (OpenSpec.ofChange flowLoopsSpec)

/-- ITS FALSE NEIGHBOUR: 'it returns false'. Refute it at one input. -/
def flowLoopsWrong : ChangeSpec := { name := "flowLoops", fn := fun _ => fun
  | [d] => { results := [.lit (.bool false)], args := [d] }
  | _ => none }
def FlowLoopsWrongFalsely : Prop := flowLoopsRow.holds Try.pinned (OpenSpec.ofChange flowLoopsWrong)

/-- 'bailiwicklaw24.FlowTrims': WHATEVER THE INPUT: true; the input reads as it did. -/
def flowTrimsSpec : ChangeSpec := { name := "flowTrims", fn := fun _ => fun
  | [d1, d2, d3] => { results := [.lit (.bool true)], args := [d1, d2, d3] }
  | _ => none }
def flowTrimsRow : OpenClaim := { program := "ytmiagijgecgfoaa", sum := "3ee9604e811fc71b3b818d994ec292cccd5038d87a8c7cc290500ec943849193", func := "bailiwick/bailiwicklaw24.FlowTrims", spec := "flowTrims", unfollowed := true, recurses := true, apart := false }
def FlowTrimsSaid : Prop := flowTrimsRow.holds Try.pinned (OpenSpec.ofChange flowTrimsSpec)

/-- ITS FALSE NEIGHBOUR: 'it returns false'. Refute it at one input. -/
def flowTrimsWrong : ChangeSpec := { name := "flowTrims", fn := fun _ => fun
  | [d1, d2, d3] => { results := [.lit (.bool false)], args := [d1, d2, d3] }
  | _ => none }
def FlowTrimsWrongFalsely : Prop := flowTrimsRow.holds Try.pinned (OpenSpec.ofChange flowTrimsWrong)

/-- 'bailiwicklaw24.FlowGoes': WHATEVER THE INPUT: true; the input reads as it did. -/
def flowGoesSpec : ChangeSpec := { name := "flowGoes", fn := fun _ => fun
  | [d1, d2, d3] => { results := [.lit (.bool true)], args := [d1, d2, d3] }
  | _ => none }
def flowGoesRow : OpenClaim := { program := "ytmiagijgecgfoaa", sum := "3ee9604e811fc71b3b818d994ec292cccd5038d87a8c7cc290500ec943849193", func := "bailiwick/bailiwicklaw24.FlowGoes", spec := "flowGoes", unfollowed := true, recurses := true, apart := false }
def FlowGoesSaid : Prop := flowGoesRow.holds Try.pinned (OpenSpec.ofChange flowGoesSpec)

/-- ITS FALSE NEIGHBOUR: 'it returns false'. Refute it at one input. -/
def flowGoesWrong : ChangeSpec := { name := "flowGoes", fn := fun _ => fun
  | [d1, d2, d3] => { results := [.lit (.bool false)], args := [d1, d2, d3] }
  | _ => none }
def FlowGoesWrongFalsely : Prop := flowGoesRow.holds Try.pinned (OpenSpec.ofChange flowGoesWrong)

/-- 'bailiwicklaw24.FlowSame': WHATEVER THE INPUT: true; the input reads as it did. -/
def flowSameSpec : ChangeSpec := { name := "flowSame", fn := fun _ => fun
  | [d1, d2] => { results := [.lit (.bool true)], args := [d1, d2] }
  | _ => none }
def flowSameRow : OpenClaim := { program := "ytmiagijgecgfoaa", sum := "3ee9604e811fc71b3b818d994ec292cccd5038d87a8c7cc290500ec943849193", func := "bailiwick/bailiwicklaw24.FlowSame", spec := "flowSame", unfollowed := true, recurses := true, apart := false }
def FlowSameSaid : Prop := flowSameRow.holds Try.pinned (OpenSpec.ofChange flowSameSpec)

/-- ITS FALSE NEIGHBOUR: 'it returns false'. Refute it at one input. -/
def flowSameWrong : ChangeSpec := { name := "flowSame", fn := fun _ => fun
  | [d1, d2] => { results := [.lit (.bool false)], args := [d1, d2] }
  | _ => none }
def FlowSameWrongFalsely : Prop := flowSameRow.holds Try.pinned (OpenSpec.ofChange flowSameWrong)

/-- 'bailiwicklaw24.FlowRulers': WHATEVER THE INPUT: true; the input reads as it did. -/
def flowRulersSpec : ChangeSpec := { name := "flowRulers", fn := fun _ => fun
  | [d1, d2] => { results := [.lit (.bool true)], args := [d1, d2] }
  | _ => none }
def flowRulersRow : OpenClaim := { program := "ytmiagijgecgfoaa", sum := "3ee9604e811fc71b3b818d994ec292cccd5038d87a8c7cc290500ec943849193", func := "bailiwick/bailiwicklaw24.FlowRulers", spec := "flowRulers", unfollowed := true, recurses := true, apart := false }
def FlowRulersSaid : Prop := flowRulersRow.holds Try.pinned (OpenSpec.ofChange flowRulersSpec)

/-- ITS FALSE NEIGHBOUR: 'it returns false'. Refute it at one input. -/
def flowRulersWrong : ChangeSpec := { name := "flowRulers", fn := fun _ => fun
  | [d1, d2] => { results := [.lit (.bool false)], args := [d1, d2] }
  | _ => none }
def FlowRulersWrongFalsely : Prop := flowRulersRow.holds Try.pinned (OpenSpec.ofChange flowRulersWrong)

/-- 'bailiwicklaw24.FlowRuns': WHATEVER THE INPUT: true; the input reads as it did. -/
def flowRunsSpec : ChangeSpec := { name := "flowRuns", fn := fun _ => fun
  | [d1, d2] => { results := [.lit (.bool true)], args := [d1, d2] }
  | _ => none }
def flowRunsRow : OpenClaim := { program := "ytmiagijgecgfoaa", sum := "3ee9604e811fc71b3b818d994ec292cccd5038d87a8c7cc290500ec943849193", func := "bailiwick/bailiwicklaw24.FlowRuns", spec := "flowRuns", unfollowed := true, recurses := true, apart := false }
def FlowRunsSaid : Prop := flowRunsRow.holds Try.pinned (OpenSpec.ofChange flowRunsSpec)

/-- ITS FALSE NEIGHBOUR: 'it returns false'. Refute it at one input. -/
def flowRunsWrong : ChangeSpec := { name := "flowRuns", fn := fun _ => fun
  | [d1, d2] => { results := [.lit (.bool false)], args := [d1, d2] }
  | _ => none }
def FlowRunsWrongFalsely : Prop := flowRunsRow.holds Try.pinned (OpenSpec.ofChange flowRunsWrong)

/- THE SECOND FORM. 'bulk': how many values and letters a reading holds, each counted each time it is reached (what is shared counts as often as it is met; a slice's spare places count too). A statement '..UptoSaid' is the law's where the arguments, and the package variables that the reading takes, are together of bulk at most 1048576: NARROWER than '..Said'. Prove '..Said' where nothing that the law and all that it calls make is longer than what came in: it says more and counts as full. Else prove '..UptoSaid'. A law counts once. -/
mutual
def uptoBulk {H : Type} : DataW H → Nat
  | .lit (.string bytes) => bytes.length + 1
  | .lit _ => 1
  | .nil => 1
  | .ptr d => uptoBulk d + 1
  | .slice elems spare => uptoBulkAll elems + uptoBulkAll spare + 1
  | .agg parts => uptoBulkAll parts + 1
  | .iface _ d => uptoBulk d + 1
  | .map entries => uptoBulkEntries entries + 1
  | .held _ => 1
def uptoBulkAll {H : Type} : List (DataW H) → Nat
  | [] => 0
  | d :: r => uptoBulk d + uptoBulkAll r
def uptoBulkEntries {H : Type} : List (Lit × DataW H) → Nat
  | [] => 0
  | x :: r => uptoBulkEntry x + uptoBulkEntries r
def uptoBulkEntry {H : Type} : Lit × DataW H → Nat
  | (.string bytes, d) => bytes.length + uptoBulk d + 1
  | (_, d) => uptoBulk d + 1
 end
def uptoSmall : (H : Type) → List (DataW H) → Bool := fun _ ds => decide (uptoBulkAll ds ≤ 1048576)
def OpenSpec.upto (s : _root_.Go.ChangeSpec) : _root_.Go.OpenSpec := { _root_.Go.OpenSpec.ofChange s with cond := some uptoSmall }

/-- 'bailiwicklaw14.TaskPlays', WHERE WHAT IT READS IS OF BULK AT MOST 1048576: true; the input reads as it did. -/
def taskPlaysUptoRow : OpenClaim := { program := "ytmiagijgecgfoaa", sum := "3ee9604e811fc71b3b818d994ec292cccd5038d87a8c7cc290500ec943849193", func := "bailiwick/bailiwicklaw14.TaskPlays", spec := "taskPlays", unfollowed := true, recurses := true, apart := false, narrowed := true }
def TaskPlaysUptoSaid : Prop := taskPlaysUptoRow.holds Try.pinned (OpenSpec.upto taskPlaysSpec)

/-- 'bailiwicklaw14.TaskGoes', WHERE WHAT IT READS IS OF BULK AT MOST 1048576: true; the input reads as it did. -/
def taskGoesUptoRow : OpenClaim := { program := "ytmiagijgecgfoaa", sum := "3ee9604e811fc71b3b818d994ec292cccd5038d87a8c7cc290500ec943849193", func := "bailiwick/bailiwicklaw14.TaskGoes", spec := "taskGoes", unfollowed := true, recurses := true, apart := false, narrowed := true }
def TaskGoesUptoSaid : Prop := taskGoesUptoRow.holds Try.pinned (OpenSpec.upto taskGoesSpec)

/-- 'bailiwicklaw24.FlowLoops', WHERE WHAT IT READS IS OF BULK AT MOST 1048576: true; the input reads as it did. -/
def flowLoopsUptoRow : OpenClaim := { program := "ytmiagijgecgfoaa", sum := "3ee9604e811fc71b3b818d994ec292cccd5038d87a8c7cc290500ec943849193", func := "bailiwick/bailiwicklaw24.FlowLoops", spec := "flowLoops", unfollowed := true, recurses := true, apart := false, narrowed := true }
def FlowLoopsUptoSaid : Prop := flowLoopsUptoRow.holds Try.pinned (OpenSpec.upto flowLoopsSpec)

/-- 'bailiwicklaw24.FlowTrims', WHERE WHAT IT READS IS OF BULK AT MOST 1048576: true; the input reads as it did. -/
def flowTrimsUptoRow : OpenClaim := { program := "ytmiagijgecgfoaa", sum := "3ee9604e811fc71b3b818d994ec292cccd5038d87a8c7cc290500ec943849193", func := "bailiwick/bailiwicklaw24.FlowTrims", spec := "flowTrims", unfollowed := true, recurses := true, apart := false, narrowed := true }
def FlowTrimsUptoSaid : Prop := flowTrimsUptoRow.holds Try.pinned (OpenSpec.upto flowTrimsSpec)

/-- 'bailiwicklaw24.FlowGoes', WHERE WHAT IT READS IS OF BULK AT MOST 1048576: true; the input reads as it did. -/
def flowGoesUptoRow : OpenClaim := { program := "ytmiagijgecgfoaa", sum := "3ee9604e811fc71b3b818d994ec292cccd5038d87a8c7cc290500ec943849193", func := "bailiwick/bailiwicklaw24.FlowGoes", spec := "flowGoes", unfollowed := true, recurses := true, apart := false, narrowed := true }
def FlowGoesUptoSaid : Prop := flowGoesUptoRow.holds Try.pinned (OpenSpec.upto flowGoesSpec)

/-- 'bailiwicklaw24.FlowSame', WHERE WHAT IT READS IS OF BULK AT MOST 1048576: true; the input reads as it did. -/
def flowSameUptoRow : OpenClaim := { program := "ytmiagijgecgfoaa", sum := "3ee9604e811fc71b3b818d994ec292cccd5038d87a8c7cc290500ec943849193", func := "bailiwick/bailiwicklaw24.FlowSame", spec := "flowSame", unfollowed := true, recurses := true, apart := false, narrowed := true }
def FlowSameUptoSaid : Prop := flowSameUptoRow.holds Try.pinned (OpenSpec.upto flowSameSpec)

/-- 'bailiwicklaw24.FlowRulers', WHERE WHAT IT READS IS OF BULK AT MOST 1048576: true; the input reads as it did. -/
def flowRulersUptoRow : OpenClaim := { program := "ytmiagijgecgfoaa", sum := "3ee9604e811fc71b3b818d994ec292cccd5038d87a8c7cc290500ec943849193", func := "bailiwick/bailiwicklaw24.FlowRulers", spec := "flowRulers", unfollowed := true, recurses := true, apart := false, narrowed := true }
def FlowRulersUptoSaid : Prop := flowRulersUptoRow.holds Try.pinned (OpenSpec.upto flowRulersSpec)

/-- 'bailiwicklaw24.FlowRuns', WHERE WHAT IT READS IS OF BULK AT MOST 1048576: true; the input reads as it did. -/
def flowRunsUptoRow : OpenClaim := { program := "ytmiagijgecgfoaa", sum := "3ee9604e811fc71b3b818d994ec292cccd5038d87a8c7cc290500ec943849193", func := "bailiwick/bailiwicklaw24.FlowRuns", spec := "flowRuns", unfollowed := true, recurses := true, apart := false, narrowed := true }
def FlowRunsUptoSaid : Prop := flowRunsUptoRow.holds Try.pinned (OpenSpec.upto flowRunsSpec)

end Rows
end Go.Proofs.Ytmiagijgecgfoaa
