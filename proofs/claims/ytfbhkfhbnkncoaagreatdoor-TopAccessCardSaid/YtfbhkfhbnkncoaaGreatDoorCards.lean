/-
  DERIVED. GIVEN WITH THE SEED: THE CARDS: each row of YtfbhkfhbnkncoaaGreatDoorRows.lean that lists a variable, with what it lists TIED to the program's text (the seventh form; the later family's looks); each row that meets fmt, with fmt's text TOLD by the authors' own Lean function (tested against real Go, not proved from fmt's source: count such statements apart). THE CARD IS WHAT COUNTS. Prove the row's statement (the work); the ties are given (YtfbhkfhbnkncoaaGreatDoorTie.lean); close each card by the builder's one call (the guide's Derived/Test/ToyasCard.lean, 'card_holds'). Laid BY PROGRAM, IN A SANDBOX (cutbox-door.mjs). By AI agents, Wed Nov 11 2026. No macro, syntax, notation, axiom, sorry.
-/
import Derived.Test.YtfbhkfhbnkncoaaGreatDoorRows
import GoSem.ClaimSeven
namespace Go.Proofs.YtfbhkfhbnkncoaaGreatDoor
namespace Rows

/-- THE TIED CARD OF 'bailiwicktop.TopAccess'. -/
def topAccessCard : Claim7 := { stood := { row := topAccessRow, standIns := [], harness := (true, "0175f18354d726fcc6f9b83f2d1f39aef72d485daa924d31e271b389dd184dec"), looks := true }, kinds := [], alts := [], laidByText := true, laidKinds := [.funcs], laidTests := true, laidLooks := .later }
def TopAccessCardSaid : Prop := Claim7.holds Tryz.pinned (.plain (OpenSpec.ofChange topAccessSpec)) topAccessCard

/-- THE TIED CARD OF 'bailiwicktop.TopPages'. -/
def topPagesCard : Claim7 := { stood := { row := topPagesRow, standIns := [], harness := (true, "0175f18354d726fcc6f9b83f2d1f39aef72d485daa924d31e271b389dd184dec"), looks := true }, kinds := [], alts := [], laidByText := true, laidKinds := [.funcs], laidTests := true, laidLooks := .later }
def TopPagesCardSaid : Prop := Claim7.holds Tryz.pinned (.plain (OpenSpec.ofChange topPagesSpec)) topPagesCard

/-- THE SECOND FORM's CARD OF 'bailiwicktop.TopAccess'. -/
def topAccessUptoCard : Claim7 := { stood := { row := topAccessUptoRow, standIns := [], harness := (true, "0175f18354d726fcc6f9b83f2d1f39aef72d485daa924d31e271b389dd184dec"), looks := true }, kinds := [], alts := [], laidByText := true, laidKinds := [.funcs], laidTests := true, laidLooks := .later }
def TopAccessUptoCardSaid : Prop := Claim7.holds Tryz.pinned (.plain (OpenSpec.upto topAccessSpec)) topAccessUptoCard

/-- THE SECOND FORM's CARD OF 'bailiwicktop.TopPages'. -/
def topPagesUptoCard : Claim7 := { stood := { row := topPagesUptoRow, standIns := [], harness := (true, "0175f18354d726fcc6f9b83f2d1f39aef72d485daa924d31e271b389dd184dec"), looks := true }, kinds := [], alts := [], laidByText := true, laidKinds := [.funcs], laidTests := true, laidLooks := .later }
def TopPagesUptoCardSaid : Prop := Claim7.holds Tryz.pinned (.plain (OpenSpec.upto topPagesSpec)) topPagesUptoCard
end Rows
end Go.Proofs.YtfbhkfhbnkncoaaGreatDoor
