/-
  DERIVED. GIVEN WITH THE SEED: THE CARDS: each row of YtkjillpcmffgoaaDoorRows.lean that lists a variable, with what it lists TIED to the program's text (the seventh form; the later family's looks); each row that meets fmt, with fmt's text TOLD by the authors' own Lean function (tested against real Go, not proved from fmt's source: count such statements apart). THE CARD IS WHAT COUNTS. Prove the row's statement (the work); the ties are given (YtkjillpcmffgoaaDoorTie.lean); close each card by the builder's one call (the guide's Derived/Test/ToyasCard.lean, 'card_holds'). Laid BY PROGRAM, IN A SANDBOX (cutbox-door.mjs). By AI agents, Wed Nov 11 2026. No macro, syntax, notation, axiom, sorry.
-/
import Derived.Test.YtkjillpcmffgoaaDoorRows
import GoSem.ClaimSeven
namespace Go.Proofs.YtkjillpcmffgoaaDoor
namespace Rows

/-- THE TIED CARD OF 'moneyerlaw02.ShaRounds'. -/
def shaRoundsCard : Claim7 := { stood := { row := shaRoundsRow, standIns := [], harness := (true, "309ffbb7a45fc8f63b017b00e1d958320a56bfcbda7dd92db1a0903d53958375"), looks := false }, kinds := [], alts := [], laidByText := true, laidKinds := [.data], laidTests := true, laidLooks := .later }
def ShaRoundsCardSaid : Prop := Claim7.holds Tryd.pinned (.plain (OpenSpec.ofChange shaRoundsSpec)) shaRoundsCard

/-- THE TIED CARD OF 'moneyerlaw02.ShaSteps'. -/
def shaStepsCard : Claim7 := { stood := { row := shaStepsRow, standIns := [], harness := (true, "309ffbb7a45fc8f63b017b00e1d958320a56bfcbda7dd92db1a0903d53958375"), looks := false }, kinds := [], alts := [], laidByText := true, laidKinds := [.data], laidTests := true, laidLooks := .later }
def ShaStepsCardSaid : Prop := Claim7.holds Tryd.pinned (.plain (OpenSpec.ofChange shaStepsSpec)) shaStepsCard

/-- THE TIED CARD OF 'moneyerlaw02.ShaPads'. -/
def shaPadsCard : Claim7 := { stood := { row := shaPadsRow, standIns := [], harness := (true, "309ffbb7a45fc8f63b017b00e1d958320a56bfcbda7dd92db1a0903d53958375"), looks := false }, kinds := [], alts := [], laidByText := true, laidKinds := [.data], laidTests := true, laidLooks := .later }
def ShaPadsCardSaid : Prop := Claim7.holds Tryd.pinned (.plain (OpenSpec.ofChange shaPadsSpec)) shaPadsCard

/-- THE TIED CARD OF 'moneyerlaw02.ShaFresh'. -/
def shaFreshCard : Claim7 := { stood := { row := shaFreshRow, standIns := [], harness := (true, "309ffbb7a45fc8f63b017b00e1d958320a56bfcbda7dd92db1a0903d53958375"), looks := false }, kinds := [], alts := [], laidByText := true, laidKinds := [.data], laidTests := true, laidLooks := .later }
def ShaFreshCardSaid : Prop := Claim7.holds Tryd.pinned (.plain (OpenSpec.ofChange shaFreshSpec)) shaFreshCard

/-- THE TIED CARD OF 'moneyerlaw02.ShaTells'. -/
def shaTellsCard : Claim7 := { stood := { row := shaTellsRow, standIns := [], harness := (true, "309ffbb7a45fc8f63b017b00e1d958320a56bfcbda7dd92db1a0903d53958375"), looks := false }, kinds := [], alts := [], laidByText := true, laidKinds := [.data], laidTests := true, laidLooks := .later }
def ShaTellsCardSaid : Prop := Claim7.holds Tryd.pinned (.plain (OpenSpec.ofChange shaTellsSpec)) shaTellsCard

/-- THE TIED CARD OF 'moneyerlaw13.LampMakes'. -/
def lampMakesCard : Claim7 := { stood := { row := lampMakesRow, standIns := [], harness := (true, "309ffbb7a45fc8f63b017b00e1d958320a56bfcbda7dd92db1a0903d53958375"), looks := false }, kinds := [], alts := [], laidByText := true, laidKinds := [.data], laidTests := true, laidLooks := .later }
def LampMakesCardSaid : Prop := Claim7.holds Tryd.pinned (.plain (OpenSpec.ofChange lampMakesSpec)) lampMakesCard

/-- THE TIED CARD OF 'moneyerlaw13.LampBack'. -/
def lampBackCard : Claim7 := { stood := { row := lampBackRow, standIns := [], harness := (true, "309ffbb7a45fc8f63b017b00e1d958320a56bfcbda7dd92db1a0903d53958375"), looks := false }, kinds := [], alts := [], laidByText := true, laidKinds := [.data], laidTests := true, laidLooks := .later }
def LampBackCardSaid : Prop := Claim7.holds Tryd.pinned (.plain (OpenSpec.ofChange lampBackSpec)) lampBackCard

/-- THE TIED CARD OF 'moneyerlaw13.LampSpoilt'. -/
def lampSpoiltCard : Claim7 := { stood := { row := lampSpoiltRow, standIns := [], harness := (true, "309ffbb7a45fc8f63b017b00e1d958320a56bfcbda7dd92db1a0903d53958375"), looks := false }, kinds := [], alts := [], laidByText := true, laidKinds := [.data], laidTests := true, laidLooks := .later }
def LampSpoiltCardSaid : Prop := Claim7.holds Tryd.pinned (.plain (OpenSpec.ofChange lampSpoiltSpec)) lampSpoiltCard

/-- THE TIED CARD OF 'moneyerlaw13.LampChecks'. -/
def lampChecksCard : Claim7 := { stood := { row := lampChecksRow, standIns := [], harness := (true, "309ffbb7a45fc8f63b017b00e1d958320a56bfcbda7dd92db1a0903d53958375"), looks := false }, kinds := [], alts := [], laidByText := true, laidKinds := [.data], laidTests := true, laidLooks := .later }
def LampChecksCardSaid : Prop := Claim7.holds Tryd.pinned (.plain (OpenSpec.ofChange lampChecksSpec)) lampChecksCard

/-- THE TIED CARD OF 'moneyerlaw13.LampOnce'. -/
def lampOnceCard : Claim7 := { stood := { row := lampOnceRow, standIns := [], harness := (true, "309ffbb7a45fc8f63b017b00e1d958320a56bfcbda7dd92db1a0903d53958375"), looks := false }, kinds := [], alts := [], laidByText := true, laidKinds := [.data], laidTests := true, laidLooks := .later }
def LampOnceCardSaid : Prop := Claim7.holds Tryd.pinned (.plain (OpenSpec.ofChange lampOnceSpec)) lampOnceCard

/-- THE SECOND FORM's CARD OF 'moneyerlaw02.ShaRounds'. -/
def shaRoundsUptoCard : Claim7 := { stood := { row := shaRoundsUptoRow, standIns := [], harness := (true, "309ffbb7a45fc8f63b017b00e1d958320a56bfcbda7dd92db1a0903d53958375"), looks := false }, kinds := [], alts := [], laidByText := true, laidKinds := [.data], laidTests := true, laidLooks := .later }
def ShaRoundsUptoCardSaid : Prop := Claim7.holds Tryd.pinned (.plain (OpenSpec.upto shaRoundsSpec)) shaRoundsUptoCard

/-- THE SECOND FORM's CARD OF 'moneyerlaw02.ShaSteps'. -/
def shaStepsUptoCard : Claim7 := { stood := { row := shaStepsUptoRow, standIns := [], harness := (true, "309ffbb7a45fc8f63b017b00e1d958320a56bfcbda7dd92db1a0903d53958375"), looks := false }, kinds := [], alts := [], laidByText := true, laidKinds := [.data], laidTests := true, laidLooks := .later }
def ShaStepsUptoCardSaid : Prop := Claim7.holds Tryd.pinned (.plain (OpenSpec.upto shaStepsSpec)) shaStepsUptoCard

/-- THE SECOND FORM's CARD OF 'moneyerlaw02.ShaPads'. -/
def shaPadsUptoCard : Claim7 := { stood := { row := shaPadsUptoRow, standIns := [], harness := (true, "309ffbb7a45fc8f63b017b00e1d958320a56bfcbda7dd92db1a0903d53958375"), looks := false }, kinds := [], alts := [], laidByText := true, laidKinds := [.data], laidTests := true, laidLooks := .later }
def ShaPadsUptoCardSaid : Prop := Claim7.holds Tryd.pinned (.plain (OpenSpec.upto shaPadsSpec)) shaPadsUptoCard

/-- THE SECOND FORM's CARD OF 'moneyerlaw02.ShaFresh'. -/
def shaFreshUptoCard : Claim7 := { stood := { row := shaFreshUptoRow, standIns := [], harness := (true, "309ffbb7a45fc8f63b017b00e1d958320a56bfcbda7dd92db1a0903d53958375"), looks := false }, kinds := [], alts := [], laidByText := true, laidKinds := [.data], laidTests := true, laidLooks := .later }
def ShaFreshUptoCardSaid : Prop := Claim7.holds Tryd.pinned (.plain (OpenSpec.upto shaFreshSpec)) shaFreshUptoCard

/-- THE SECOND FORM's CARD OF 'moneyerlaw02.ShaTells'. -/
def shaTellsUptoCard : Claim7 := { stood := { row := shaTellsUptoRow, standIns := [], harness := (true, "309ffbb7a45fc8f63b017b00e1d958320a56bfcbda7dd92db1a0903d53958375"), looks := false }, kinds := [], alts := [], laidByText := true, laidKinds := [.data], laidTests := true, laidLooks := .later }
def ShaTellsUptoCardSaid : Prop := Claim7.holds Tryd.pinned (.plain (OpenSpec.upto shaTellsSpec)) shaTellsUptoCard

/-- THE SECOND FORM's CARD OF 'moneyerlaw13.LampMakes'. -/
def lampMakesUptoCard : Claim7 := { stood := { row := lampMakesUptoRow, standIns := [], harness := (true, "309ffbb7a45fc8f63b017b00e1d958320a56bfcbda7dd92db1a0903d53958375"), looks := false }, kinds := [], alts := [], laidByText := true, laidKinds := [.data], laidTests := true, laidLooks := .later }
def LampMakesUptoCardSaid : Prop := Claim7.holds Tryd.pinned (.plain (OpenSpec.upto lampMakesSpec)) lampMakesUptoCard

/-- THE SECOND FORM's CARD OF 'moneyerlaw13.LampBack'. -/
def lampBackUptoCard : Claim7 := { stood := { row := lampBackUptoRow, standIns := [], harness := (true, "309ffbb7a45fc8f63b017b00e1d958320a56bfcbda7dd92db1a0903d53958375"), looks := false }, kinds := [], alts := [], laidByText := true, laidKinds := [.data], laidTests := true, laidLooks := .later }
def LampBackUptoCardSaid : Prop := Claim7.holds Tryd.pinned (.plain (OpenSpec.upto lampBackSpec)) lampBackUptoCard

/-- THE SECOND FORM's CARD OF 'moneyerlaw13.LampSpoilt'. -/
def lampSpoiltUptoCard : Claim7 := { stood := { row := lampSpoiltUptoRow, standIns := [], harness := (true, "309ffbb7a45fc8f63b017b00e1d958320a56bfcbda7dd92db1a0903d53958375"), looks := false }, kinds := [], alts := [], laidByText := true, laidKinds := [.data], laidTests := true, laidLooks := .later }
def LampSpoiltUptoCardSaid : Prop := Claim7.holds Tryd.pinned (.plain (OpenSpec.upto lampSpoiltSpec)) lampSpoiltUptoCard

/-- THE SECOND FORM's CARD OF 'moneyerlaw13.LampChecks'. -/
def lampChecksUptoCard : Claim7 := { stood := { row := lampChecksUptoRow, standIns := [], harness := (true, "309ffbb7a45fc8f63b017b00e1d958320a56bfcbda7dd92db1a0903d53958375"), looks := false }, kinds := [], alts := [], laidByText := true, laidKinds := [.data], laidTests := true, laidLooks := .later }
def LampChecksUptoCardSaid : Prop := Claim7.holds Tryd.pinned (.plain (OpenSpec.upto lampChecksSpec)) lampChecksUptoCard

/-- THE SECOND FORM's CARD OF 'moneyerlaw13.LampOnce'. -/
def lampOnceUptoCard : Claim7 := { stood := { row := lampOnceUptoRow, standIns := [], harness := (true, "309ffbb7a45fc8f63b017b00e1d958320a56bfcbda7dd92db1a0903d53958375"), looks := false }, kinds := [], alts := [], laidByText := true, laidKinds := [.data], laidTests := true, laidLooks := .later }
def LampOnceUptoCardSaid : Prop := Claim7.holds Tryd.pinned (.plain (OpenSpec.upto lampOnceSpec)) lampOnceUptoCard
end Rows
end Go.Proofs.YtkjillpcmffgoaaDoor
