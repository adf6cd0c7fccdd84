/-
  NARROWER THAN 'FOR EVERY INPUT', by the rows' own cells (each row's printed sentence says how): TopAccess: laid · TopPages: laid.
  DERIVED. THE GIVEN ROWS OF THIS SEAT. 2 by the template 'for every input the law returns true; each argument reads behind the call as it read before'; 0 by the template 'total and deterministic' (their statements: YtfbhkfhbnkncoaaGreatDoorTotals.lean).
  GIVEN WITH THE SEED: the statements are not yours to turn. If you find one false, say at which input.
  Laid BY PROGRAM, IN A SANDBOX (cutbox-rows.mjs): the forced cells as the released guide's own fill.sh prints them over the translation e0230570937cf781… (all of the seat's roots in one cut). By AI agents, Wed Nov 11 2026. No macro, syntax, notation, axiom, sorry.
-/
import Derived.Test.YtfbhkfhbnkncoaaGreatDoorChecked
import GoSem.Claim
import GoSem.ClaimJoined
import GoSem.ClaimMapViews
import Derived.JoinedTies
import Derived.KernelRfl
namespace Go.Proofs.YtfbhkfhbnkncoaaGreatDoor
/- THE CELL 'sum', in the pinned program and in every row, IS THE sha256 OF THE DUMP (.gsa) THAT YtfbhkfhbnkncoaaGreatDoorProg.lean LOADS. Nothing in Lean hashes anything: it is a label: what it is worth is what the hold of that sum in a sandbox is worth. -/
noncomputable def Tryz.pinned : Pinned := { name := "ytfbhkfhbnkncoaagreatdoor", sum := "e0230570937cf781e4b69f73b2f16ad71ec0b925315b7a45e7dd1694a0eee001", checked := Tryz.checked }
namespace Rows
def none {H : Type} : Left H := { results := [], args := [] }

/- WHAT THE LISTED PACKAGE-LEVEL VARIABLES READ AS WHEN THE CALL BEGINS. Each datum BY PROGRAM (the guide's laid-datum.mjs) off the statement by which the dump's own 'gosem.cut.vars' lays the variable. In a bare row this is a premise. The card (YtfbhkfhbnkncoaaGreatDoorCards.lean) ties it to the program's text. -/
def laid_bailiwick_model_does {H : Type} : DataW H := .iface "func table" (.map [(.int .u8 1, .iface "func" (.lit (.string [40, 42, 98, 97, 105, 108, 105, 119, 105, 99, 107, 47, 109, 111, 100, 101, 108, 46, 99, 97, 108, 108, 101, 114, 41, 46, 110, 101, 119]))), (.int .u8 2, .iface "func" (.lit (.string [40, 42, 98, 97, 105, 108, 105, 119, 105, 99, 107, 47, 109, 111, 100, 101, 108, 46, 99, 97, 108, 108, 101, 114, 41, 46, 97, 108, 108, 111, 99]))), (.int .u8 3, .iface "func" (.lit (.string [40, 42, 98, 97, 105, 108, 105, 119, 105, 99, 107, 47, 109, 111, 100, 101, 108, 46, 99, 97, 108, 108, 101, 114, 41, 46, 108, 111, 97, 100]))), (.int .u8 4, .iface "func" (.lit (.string [40, 42, 98, 97, 105, 108, 105, 119, 105, 99, 107, 47, 109, 111, 100, 101, 108, 46, 99, 97, 108, 108, 101, 114, 41, 46, 115, 116, 111, 114, 101]))), (.int .u8 5, .iface "func" (.lit (.string [40, 42, 98, 97, 105, 108, 105, 119, 105, 99, 107, 47, 109, 111, 100, 101, 108, 46, 99, 97, 108, 108, 101, 114, 41, 46, 114, 101, 115, 101, 116]))), (.int .u8 6, .iface "func" (.lit (.string [40, 42, 98, 97, 105, 108, 105, 119, 105, 99, 107, 47, 109, 111, 100, 101, 108, 46, 99, 97, 108, 108, 101, 114, 41, 46, 100, 101, 108, 101, 116, 101]))), (.int .u8 7, .iface "func" (.lit (.string [40, 42, 98, 97, 105, 108, 105, 119, 105, 99, 107, 47, 109, 111, 100, 101, 108, 46, 99, 97, 108, 108, 101, 114, 41, 46, 99, 117, 116]))), (.int .u8 8, .iface "func" (.lit (.string [40, 42, 98, 97, 105, 108, 105, 119, 105, 99, 107, 47, 109, 111, 100, 101, 108, 46, 99, 97, 108, 108, 101, 114, 41, 46, 103, 114, 97, 102, 116]))), (.int .u8 9, .iface "func" (.lit (.string [40, 42, 98, 97, 105, 108, 105, 119, 105, 99, 107, 47, 109, 111, 100, 101, 108, 46, 99, 97, 108, 108, 101, 114, 41, 46, 102, 114, 101, 101, 122, 101]))), (.int .u8 10, .iface "func" (.lit (.string [40, 42, 98, 97, 105, 108, 105, 119, 105, 99, 107, 47, 109, 111, 100, 101, 108, 46, 99, 97, 108, 108, 101, 114, 41, 46, 115, 104, 97, 114, 101]))), (.int .u8 11, .iface "func" (.lit (.string [40, 42, 98, 97, 105, 108, 105, 119, 105, 99, 107, 47, 109, 111, 100, 101, 108, 46, 99, 97, 108, 108, 101, 114, 41, 46, 100, 114, 111, 112]))), (.int .u8 12, .iface "func" (.lit (.string [40, 42, 98, 97, 105, 108, 105, 119, 105, 99, 107, 47, 109, 111, 100, 101, 108, 46, 99, 97, 108, 108, 101, 114, 41, 46, 108, 101, 110, 100]))), (.int .u8 13, .iface "func" (.lit (.string [40, 42, 98, 97, 105, 108, 105, 119, 105, 99, 107, 47, 109, 111, 100, 101, 108, 46, 99, 97, 108, 108, 101, 114, 41, 46, 103, 105, 118, 101, 66, 97, 99, 107]))), (.int .u8 14, .iface "func" (.lit (.string [40, 42, 98, 97, 105, 108, 105, 119, 105, 99, 107, 47, 109, 111, 100, 101, 108, 46, 99, 97, 108, 108, 101, 114, 41, 46, 115, 101, 110, 100]))), (.int .u8 15, .iface "func" (.lit (.string [40, 42, 98, 97, 105, 108, 105, 119, 105, 99, 107, 47, 109, 111, 100, 101, 108, 46, 99, 97, 108, 108, 101, 114, 41, 46, 114, 101, 99, 118]))), (.int .u8 16, .iface "func" (.lit (.string [40, 42, 98, 97, 105, 108, 105, 119, 105, 99, 107, 47, 109, 111, 100, 101, 108, 46, 99, 97, 108, 108, 101, 114, 41, 46, 114, 101, 99, 118]))), (.int .u8 17, .iface "func" (.lit (.string [40, 42, 98, 97, 105, 108, 105, 119, 105, 99, 107, 47, 109, 111, 100, 101, 108, 46, 99, 97, 108, 108, 101, 114, 41, 46, 99, 108, 111, 115, 101]))), (.int .u8 18, .iface "func" (.lit (.string [40, 42, 98, 97, 105, 108, 105, 119, 105, 99, 107, 47, 109, 111, 100, 101, 108, 46, 99, 97, 108, 108, 101, 114, 41, 46, 114, 101, 102]))), (.int .u8 19, .iface "func" (.lit (.string [40, 42, 98, 97, 105, 108, 105, 119, 105, 99, 107, 47, 109, 111, 100, 101, 108, 46, 99, 97, 108, 108, 101, 114, 41, 46, 100, 101, 114, 101, 102]))), (.int .u8 20, .iface "func" (.lit (.string [40, 42, 98, 97, 105, 108, 105, 119, 105, 99, 107, 47, 109, 111, 100, 101, 108, 46, 99, 97, 108, 108, 101, 114, 41, 46, 101, 120, 105, 116]))), (.int .u8 21, .iface "func" (.lit (.string [40, 42, 98, 97, 105, 108, 105, 119, 105, 99, 107, 47, 109, 111, 100, 101, 108, 46, 99, 97, 108, 108, 101, 114, 41, 46, 107, 105, 108, 108]))), (.int .u8 22, .iface "func" (.lit (.string [40, 42, 98, 97, 105, 108, 105, 119, 105, 99, 107, 47, 109, 111, 100, 101, 108, 46, 99, 97, 108, 108, 101, 114, 41, 46, 115, 112, 97, 119, 110])))])

/-- 'bailiwicktop.TopAccess': WHATEVER THE INPUT: true; the input reads as it did. -/
def topAccessSpec : ChangeSpec := { name := "topAccess", fn := fun _ => fun
  | [d] => { results := [.lit (.bool true)], args := [d] }
  | _ => none }
def topAccessRow : OpenClaim := { program := "ytfbhkfhbnkncoaagreatdoor", sum := "e0230570937cf781e4b69f73b2f16ad71ec0b925315b7a45e7dd1694a0eee001", func := "bailiwick/bailiwicktop.TopAccess", spec := "topAccess", unfollowed := true, recurses := true, named := ["bailiwick/model.does"], apart := false, laid := [("bailiwick/model.does", laid_bailiwick_model_does)] }
def TopAccessSaid : Prop := topAccessRow.holds Tryz.pinned (OpenSpec.ofChange topAccessSpec)

/-- ITS FALSE NEIGHBOUR: 'it returns false'. Refute it at one input. -/
def topAccessWrong : ChangeSpec := { name := "topAccess", fn := fun _ => fun
  | [d] => { results := [.lit (.bool false)], args := [d] }
  | _ => none }
def TopAccessWrongFalsely : Prop := topAccessRow.holds Tryz.pinned (OpenSpec.ofChange topAccessWrong)

/-- 'bailiwicktop.TopPages': WHATEVER THE INPUT: true; the input reads as it did. -/
def topPagesSpec : ChangeSpec := { name := "topPages", fn := fun _ => fun
  | [d] => { results := [.lit (.bool true)], args := [d] }
  | _ => none }
def topPagesRow : OpenClaim := { program := "ytfbhkfhbnkncoaagreatdoor", sum := "e0230570937cf781e4b69f73b2f16ad71ec0b925315b7a45e7dd1694a0eee001", func := "bailiwick/bailiwicktop.TopPages", spec := "topPages", unfollowed := true, recurses := true, named := ["bailiwick/model.does"], apart := false, laid := [("bailiwick/model.does", laid_bailiwick_model_does)] }
def TopPagesSaid : Prop := topPagesRow.holds Tryz.pinned (OpenSpec.ofChange topPagesSpec)

/-- ITS FALSE NEIGHBOUR: 'it returns false'. Refute it at one input. -/
def topPagesWrong : ChangeSpec := { name := "topPages", fn := fun _ => fun
  | [d] => { results := [.lit (.bool false)], args := [d] }
  | _ => none }
def TopPagesWrongFalsely : Prop := topPagesRow.holds Tryz.pinned (OpenSpec.ofChange topPagesWrong)

/- THE SECOND FORM. 'bulk': how many values and letters a reading holds, each counted each time it is reached (what is shared counts as often as it is met; a slice's spare places count too). A statement '..UptoSaid' is the law's where the arguments, and the package variables that the reading takes, are together of bulk at most 1048576: NARROWER than '..Said'. Prove '..Said' where nothing that the law and all that it calls make is longer than what came in: it says more and counts as full. Else prove '..UptoSaid'. A law counts once. -/
mutual
def uptoBulk {H : Type} : DataW H → Nat
  | .lit (.string bytes) => bytes.length + 1
  | .lit _ => 1
  | .nil => 1
  | .ptr d => uptoBulk d + 1
  | .slice elems spare => uptoBulkAll elems + uptoBulkAll spare + 1
  | .agg parts => uptoBulkAll parts + 1
  | .iface _ d => uptoBulk d + 1
  | .map entries => uptoBulkEntries entries + 1
  | .held _ => 1
def uptoBulkAll {H : Type} : List (DataW H) → Nat
  | [] => 0
  | d :: r => uptoBulk d + uptoBulkAll r
def uptoBulkEntries {H : Type} : List (Lit × DataW H) → Nat
  | [] => 0
  | x :: r => uptoBulkEntry x + uptoBulkEntries r
def uptoBulkEntry {H : Type} : Lit × DataW H → Nat
  | (.string bytes, d) => bytes.length + uptoBulk d + 1
  | (_, d) => uptoBulk d + 1
 end
def uptoSmall : (H : Type) → List (DataW H) → Bool := fun _ ds => decide (uptoBulkAll ds ≤ 1048576)
def OpenSpec.upto (s : _root_.Go.ChangeSpec) : _root_.Go.OpenSpec := { _root_.Go.OpenSpec.ofChange s with cond := some uptoSmall }

/-- 'bailiwicktop.TopAccess', WHERE WHAT IT READS IS OF BULK AT MOST 1048576: true; the input reads as it did. -/
def topAccessUptoRow : OpenClaim := { program := "ytfbhkfhbnkncoaagreatdoor", sum := "e0230570937cf781e4b69f73b2f16ad71ec0b925315b7a45e7dd1694a0eee001", func := "bailiwick/bailiwicktop.TopAccess", spec := "topAccess", unfollowed := true, recurses := true, named := ["bailiwick/model.does"], apart := false, laid := [("bailiwick/model.does", laid_bailiwick_model_does)], narrowed := true }
def TopAccessUptoSaid : Prop := topAccessUptoRow.holds Tryz.pinned (OpenSpec.upto topAccessSpec)

/-- 'bailiwicktop.TopPages', WHERE WHAT IT READS IS OF BULK AT MOST 1048576: true; the input reads as it did. -/
def topPagesUptoRow : OpenClaim := { program := "ytfbhkfhbnkncoaagreatdoor", sum := "e0230570937cf781e4b69f73b2f16ad71ec0b925315b7a45e7dd1694a0eee001", func := "bailiwick/bailiwicktop.TopPages", spec := "topPages", unfollowed := true, recurses := true, named := ["bailiwick/model.does"], apart := false, laid := [("bailiwick/model.does", laid_bailiwick_model_does)], narrowed := true }
def TopPagesUptoSaid : Prop := topPagesUptoRow.holds Tryz.pinned (OpenSpec.upto topPagesSpec)

end Rows
end Go.Proofs.YtfbhkfhbnkncoaaGreatDoor
