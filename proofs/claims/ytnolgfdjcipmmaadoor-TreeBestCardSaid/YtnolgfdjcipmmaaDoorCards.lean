/-
  DERIVED. GIVEN WITH THE SEED: THE CARDS: each row of YtnolgfdjcipmmaaDoorRows.lean that lists a variable, with what it lists TIED to the program's text (the seventh form; the later family's looks); each row that meets fmt, with fmt's text TOLD by the authors' own Lean function (tested against real Go, not proved from fmt's source: count such statements apart). THE CARD IS WHAT COUNTS. Prove the row's statement (the work); the ties are given (YtnolgfdjcipmmaaDoorTie.lean); close each card by the builder's one call (the guide's Derived/Test/ToyasCard.lean, 'card_holds'). Laid BY PROGRAM, IN A SANDBOX (cutbox-door.mjs). By AI agents, Wed Nov 11 2026. No macro, syntax, notation, axiom, sorry.
-/
import Derived.Test.YtnolgfdjcipmmaaDoorRows
import GoSem.ClaimSeven
namespace Go.Proofs.YtnolgfdjcipmmaaDoor
namespace Rows

/-- THE TIED CARD OF 'moneyerlaw28.TreeBest'. -/
def treeBestCard : Claim7 := { stood := { row := treeBestRow, standIns := [], harness := (true, "8e4088b64b8e26df6e7d866a397ff3a1a07d139fc97da5e262e2ed5c6b2be50c"), looks := true }, kinds := [], alts := [], laidByText := true, laidKinds := [.data], laidTests := true, laidLooks := .later }
def TreeBestCardSaid : Prop := Claim7.holds Tryd.pinned (.plain (OpenSpec.ofChange treeBestSpec)) treeBestCard

/-- THE TIED CARD OF 'moneyerlaw28.TreeNil'. -/
def treeNilCard : Claim7 := { stood := { row := treeNilRow, standIns := [], harness := (true, "8e4088b64b8e26df6e7d866a397ff3a1a07d139fc97da5e262e2ed5c6b2be50c"), looks := true }, kinds := [], alts := [], laidByText := true, laidKinds := [.data], laidTests := true, laidLooks := .later }
def TreeNilCardSaid : Prop := Claim7.holds Tryd.pinned (.plain (OpenSpec.ofChange treeNilSpec)) treeNilCard

/-- THE SECOND FORM's CARD OF 'moneyerlaw28.TreeBest'. -/
def treeBestUptoCard : Claim7 := { stood := { row := treeBestUptoRow, standIns := [], harness := (true, "8e4088b64b8e26df6e7d866a397ff3a1a07d139fc97da5e262e2ed5c6b2be50c"), looks := true }, kinds := [], alts := [], laidByText := true, laidKinds := [.data], laidTests := true, laidLooks := .later }
def TreeBestUptoCardSaid : Prop := Claim7.holds Tryd.pinned (.plain (OpenSpec.upto treeBestSpec)) treeBestUptoCard

/-- THE SECOND FORM's CARD OF 'moneyerlaw28.TreeNil'. -/
def treeNilUptoCard : Claim7 := { stood := { row := treeNilUptoRow, standIns := [], harness := (true, "8e4088b64b8e26df6e7d866a397ff3a1a07d139fc97da5e262e2ed5c6b2be50c"), looks := true }, kinds := [], alts := [], laidByText := true, laidKinds := [.data], laidTests := true, laidLooks := .later }
def TreeNilUptoCardSaid : Prop := Claim7.holds Tryd.pinned (.plain (OpenSpec.upto treeNilSpec)) treeNilUptoCard
end Rows
end Go.Proofs.YtnolgfdjcipmmaaDoor
