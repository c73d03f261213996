/-
  DERIVED. GIVEN WITH THE SEED: THE CARDS: each row of YtbdajagcinfeeaaDoorRows.lean that lists a variable, with what it lists TIED to the program's text (the seventh form; the later family's looks); each row that meets fmt, with fmt's text TOLD by the authors' own Lean function (tested against real Go, not proved from fmt's source: count such statements apart). THE CARD IS WHAT COUNTS. Prove the row's statement (the work); the ties are given (YtbdajagcinfeeaaDoorTie.lean); close each card by the builder's one call (the guide's Derived/Test/ToyasCard.lean, 'card_holds'). Laid BY PROGRAM, IN A SANDBOX (cutbox-door.mjs). By AI agents, Wed Nov 11 2026. No macro, syntax, notation, axiom, sorry.
-/
import Derived.Test.YtbdajagcinfeeaaDoorRows
import GoSem.ClaimSeven
namespace Go.Proofs.YtbdajagcinfeeaaDoor
namespace Rows

/-- THE TIED CARD OF 'moneyerlaw09.MerkleOne'. -/
def merkleOneCard : Claim7 := { stood := { row := merkleOneRow, standIns := [], harness := (true, "3f586422b4bcc8e156c7a75eeef5cb184319f97d1faa08789495172fa4ab45b4"), looks := false }, kinds := [], alts := [], laidByText := true, laidKinds := [.data], laidTests := true, laidLooks := .later }
def MerkleOneCardSaid : Prop := Claim7.holds Tryd.pinned (.plain (OpenSpec.ofChange merkleOneSpec)) merkleOneCard

/-- THE TIED CARD OF 'moneyerlaw09.MerkleFresh'. -/
def merkleFreshCard : Claim7 := { stood := { row := merkleFreshRow, standIns := [], harness := (true, "3f586422b4bcc8e156c7a75eeef5cb184319f97d1faa08789495172fa4ab45b4"), looks := false }, kinds := [], alts := [], laidByText := true, laidKinds := [.data], laidTests := true, laidLooks := .later }
def MerkleFreshCardSaid : Prop := Claim7.holds Tryd.pinned (.plain (OpenSpec.ofChange merkleFreshSpec)) merkleFreshCard

/-- THE TIED CARD OF 'moneyerlaw09.MerkleTells'. -/
def merkleTellsCard : Claim7 := { stood := { row := merkleTellsRow, standIns := [], harness := (true, "3f586422b4bcc8e156c7a75eeef5cb184319f97d1faa08789495172fa4ab45b4"), looks := false }, kinds := [], alts := [], laidByText := true, laidKinds := [.data], laidTests := true, laidLooks := .later }
def MerkleTellsCardSaid : Prop := Claim7.holds Tryd.pinned (.plain (OpenSpec.ofChange merkleTellsSpec)) merkleTellsCard

/-- THE TIED CARD OF 'moneyerlaw09.MerkleWays'. -/
def merkleWaysCard : Claim7 := { stood := { row := merkleWaysRow, standIns := [], harness := (true, "3f586422b4bcc8e156c7a75eeef5cb184319f97d1faa08789495172fa4ab45b4"), looks := false }, kinds := [], alts := [], laidByText := true, laidKinds := [.data], laidTests := true, laidLooks := .later }
def MerkleWaysCardSaid : Prop := Claim7.holds Tryd.pinned (.plain (OpenSpec.ofChange merkleWaysSpec)) merkleWaysCard

/-- THE TIED CARD OF 'moneyerlaw08.HeadPuts'. -/
def headPutsCard : Claim7 := { stood := { row := headPutsRow, standIns := [], harness := (true, "3f586422b4bcc8e156c7a75eeef5cb184319f97d1faa08789495172fa4ab45b4"), looks := false }, kinds := [], alts := [], laidByText := true, laidKinds := [.data], laidTests := true, laidLooks := .later }
def HeadPutsCardSaid : Prop := Claim7.holds Tryd.pinned (.plain (OpenSpec.ofChange headPutsSpec)) headPutsCard

/-- THE TIED CARD OF 'moneyerlaw08.HeadGets'. -/
def headGetsCard : Claim7 := { stood := { row := headGetsRow, standIns := [], harness := (true, "3f586422b4bcc8e156c7a75eeef5cb184319f97d1faa08789495172fa4ab45b4"), looks := false }, kinds := [], alts := [], laidByText := true, laidKinds := [.data], laidTests := true, laidLooks := .later }
def HeadGetsCardSaid : Prop := Claim7.holds Tryd.pinned (.plain (OpenSpec.ofChange headGetsSpec)) headGetsCard

/-- THE TIED CARD OF 'moneyerlaw08.HeadMines'. -/
def headMinesCard : Claim7 := { stood := { row := headMinesRow, standIns := [], harness := (true, "3f586422b4bcc8e156c7a75eeef5cb184319f97d1faa08789495172fa4ab45b4"), looks := false }, kinds := [], alts := [], laidByText := true, laidKinds := [.data], laidTests := true, laidLooks := .later }
def HeadMinesCardSaid : Prop := Claim7.holds Tryd.pinned (.plain (OpenSpec.ofChange headMinesSpec)) headMinesCard

/-- THE TIED CARD OF 'moneyerlaw08.HeadMined'. -/
def headMinedCard : Claim7 := { stood := { row := headMinedRow, standIns := [], harness := (true, "3f586422b4bcc8e156c7a75eeef5cb184319f97d1faa08789495172fa4ab45b4"), looks := false }, kinds := [], alts := [], laidByText := true, laidKinds := [.data], laidTests := true, laidLooks := .later }
def HeadMinedCardSaid : Prop := Claim7.holds Tryd.pinned (.plain (OpenSpec.ofChange headMinedSpec)) headMinedCard

/-- THE SECOND FORM's CARD OF 'moneyerlaw09.MerkleOne'. -/
def merkleOneUptoCard : Claim7 := { stood := { row := merkleOneUptoRow, standIns := [], harness := (true, "3f586422b4bcc8e156c7a75eeef5cb184319f97d1faa08789495172fa4ab45b4"), looks := false }, kinds := [], alts := [], laidByText := true, laidKinds := [.data], laidTests := true, laidLooks := .later }
def MerkleOneUptoCardSaid : Prop := Claim7.holds Tryd.pinned (.plain (OpenSpec.upto merkleOneSpec)) merkleOneUptoCard

/-- THE SECOND FORM's CARD OF 'moneyerlaw09.MerkleFresh'. -/
def merkleFreshUptoCard : Claim7 := { stood := { row := merkleFreshUptoRow, standIns := [], harness := (true, "3f586422b4bcc8e156c7a75eeef5cb184319f97d1faa08789495172fa4ab45b4"), looks := false }, kinds := [], alts := [], laidByText := true, laidKinds := [.data], laidTests := true, laidLooks := .later }
def MerkleFreshUptoCardSaid : Prop := Claim7.holds Tryd.pinned (.plain (OpenSpec.upto merkleFreshSpec)) merkleFreshUptoCard

/-- THE SECOND FORM's CARD OF 'moneyerlaw09.MerkleTells'. -/
def merkleTellsUptoCard : Claim7 := { stood := { row := merkleTellsUptoRow, standIns := [], harness := (true, "3f586422b4bcc8e156c7a75eeef5cb184319f97d1faa08789495172fa4ab45b4"), looks := false }, kinds := [], alts := [], laidByText := true, laidKinds := [.data], laidTests := true, laidLooks := .later }
def MerkleTellsUptoCardSaid : Prop := Claim7.holds Tryd.pinned (.plain (OpenSpec.upto merkleTellsSpec)) merkleTellsUptoCard

/-- THE SECOND FORM's CARD OF 'moneyerlaw09.MerkleWays'. -/
def merkleWaysUptoCard : Claim7 := { stood := { row := merkleWaysUptoRow, standIns := [], harness := (true, "3f586422b4bcc8e156c7a75eeef5cb184319f97d1faa08789495172fa4ab45b4"), looks := false }, kinds := [], alts := [], laidByText := true, laidKinds := [.data], laidTests := true, laidLooks := .later }
def MerkleWaysUptoCardSaid : Prop := Claim7.holds Tryd.pinned (.plain (OpenSpec.upto merkleWaysSpec)) merkleWaysUptoCard

/-- THE SECOND FORM's CARD OF 'moneyerlaw08.HeadPuts'. -/
def headPutsUptoCard : Claim7 := { stood := { row := headPutsUptoRow, standIns := [], harness := (true, "3f586422b4bcc8e156c7a75eeef5cb184319f97d1faa08789495172fa4ab45b4"), looks := false }, kinds := [], alts := [], laidByText := true, laidKinds := [.data], laidTests := true, laidLooks := .later }
def HeadPutsUptoCardSaid : Prop := Claim7.holds Tryd.pinned (.plain (OpenSpec.upto headPutsSpec)) headPutsUptoCard

/-- THE SECOND FORM's CARD OF 'moneyerlaw08.HeadGets'. -/
def headGetsUptoCard : Claim7 := { stood := { row := headGetsUptoRow, standIns := [], harness := (true, "3f586422b4bcc8e156c7a75eeef5cb184319f97d1faa08789495172fa4ab45b4"), looks := false }, kinds := [], alts := [], laidByText := true, laidKinds := [.data], laidTests := true, laidLooks := .later }
def HeadGetsUptoCardSaid : Prop := Claim7.holds Tryd.pinned (.plain (OpenSpec.upto headGetsSpec)) headGetsUptoCard

/-- THE SECOND FORM's CARD OF 'moneyerlaw08.HeadMines'. -/
def headMinesUptoCard : Claim7 := { stood := { row := headMinesUptoRow, standIns := [], harness := (true, "3f586422b4bcc8e156c7a75eeef5cb184319f97d1faa08789495172fa4ab45b4"), looks := false }, kinds := [], alts := [], laidByText := true, laidKinds := [.data], laidTests := true, laidLooks := .later }
def HeadMinesUptoCardSaid : Prop := Claim7.holds Tryd.pinned (.plain (OpenSpec.upto headMinesSpec)) headMinesUptoCard

/-- THE SECOND FORM's CARD OF 'moneyerlaw08.HeadMined'. -/
def headMinedUptoCard : Claim7 := { stood := { row := headMinedUptoRow, standIns := [], harness := (true, "3f586422b4bcc8e156c7a75eeef5cb184319f97d1faa08789495172fa4ab45b4"), looks := false }, kinds := [], alts := [], laidByText := true, laidKinds := [.data], laidTests := true, laidLooks := .later }
def HeadMinedUptoCardSaid : Prop := Claim7.holds Tryd.pinned (.plain (OpenSpec.upto headMinedSpec)) headMinedUptoCard
end Rows
end Go.Proofs.YtbdajagcinfeeaaDoor
