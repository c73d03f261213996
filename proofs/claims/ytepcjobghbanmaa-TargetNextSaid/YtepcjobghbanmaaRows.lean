/-
  No cell of these rows narrows 'for every input' (looked for: loops, veiled, ifaces, maps, wideKeys, modest, calm, conditions, laid).
  DERIVED. THE GIVEN ROWS OF THIS SEAT. 12 by the template 'for every input the law returns true; each argument reads behind the call as it read before'; 0 by the template 'total and deterministic' (their statements: YtepcjobghbanmaaTotals.lean).
  GIVEN WITH THE SEED: the statements are not yours to turn. If you find one false, say at which input.
  Laid BY PROGRAM, IN A SANDBOX (cutbox-rows.mjs): the forced cells as the released guide's own fill.sh prints them over the translation b93bd0f0417bc0eb… (all of the seat's roots in one cut). By AI agents, Wed Nov 11 2026. No macro, syntax, notation, axiom, sorry.
-/
import Derived.Test.YtepcjobghbanmaaChecked
import GoSem.Claim
import GoSem.ClaimJoined
import GoSem.ClaimMapViews
import Derived.JoinedTies
import Derived.KernelRfl
namespace Go.Proofs.Ytepcjobghbanmaa
/- THE CELL 'sum', in the pinned program and in every row, IS THE sha256 OF THE DUMP (.gsa) THAT YtepcjobghbanmaaProg.lean LOADS. Nothing in Lean hashes anything: it is a label: what it is worth is what the hold of that sum in a sandbox is worth. -/
noncomputable def Try.pinned : Pinned := { name := "ytepcjobghbanmaa", sum := "b93bd0f0417bc0ebc1afa28dc425e8d564fb0e2fde5b763652b9b124500cd781", checked := Try.checked }
namespace Rows
def none {H : Type} : Left H := { results := [], args := [] }

/-- 'moneyerlaw03.BigDivs': WHATEVER THE INPUT: true; the input reads as it did. -/
def bigDivsSpec : ChangeSpec := { name := "bigDivs", fn := fun _ => fun
  | [d1, d2, d3] => { results := [.lit (.bool true)], args := [d1, d2, d3] }
  | _ => none }
def bigDivsRow : OpenClaim := { program := "ytepcjobghbanmaa", sum := "b93bd0f0417bc0ebc1afa28dc425e8d564fb0e2fde5b763652b9b124500cd781", func := "moneyer/moneyerlaw03.BigDivs", spec := "bigDivs", inPlace := ["math/bits.Sub64"], named := ["math/bits.divideError", "math/bits.overflowError"], apart := false }
def BigDivsSaid : Prop := bigDivsRow.holds Try.pinned (OpenSpec.ofChange bigDivsSpec)

/-- ITS FALSE NEIGHBOUR: 'it returns false'. Refute it at one input. -/
def bigDivsWrong : ChangeSpec := { name := "bigDivs", fn := fun _ => fun
  | [d1, d2, d3] => { results := [.lit (.bool false)], args := [d1, d2, d3] }
  | _ => none }
def BigDivsWrongFalsely : Prop := bigDivsRow.holds Try.pinned (OpenSpec.ofChange bigDivsWrong)

/-- 'moneyerlaw03.BigAdds': WHATEVER THE INPUT: true; the input reads as it did. -/
def bigAddsSpec : ChangeSpec := { name := "bigAdds", fn := fun _ => fun
  | [d1, d2] => { results := [.lit (.bool true)], args := [d1, d2] }
  | _ => none }
def bigAddsRow : OpenClaim := { program := "ytepcjobghbanmaa", sum := "b93bd0f0417bc0ebc1afa28dc425e8d564fb0e2fde5b763652b9b124500cd781", func := "moneyer/moneyerlaw03.BigAdds", spec := "bigAdds", inPlace := ["math/bits.Add64", "math/bits.Sub64"], named := ["math/bits.divideError", "math/bits.overflowError"], apart := false }
def BigAddsSaid : Prop := bigAddsRow.holds Try.pinned (OpenSpec.ofChange bigAddsSpec)

/-- ITS FALSE NEIGHBOUR: 'it returns false'. Refute it at one input. -/
def bigAddsWrong : ChangeSpec := { name := "bigAdds", fn := fun _ => fun
  | [d1, d2] => { results := [.lit (.bool false)], args := [d1, d2] }
  | _ => none }
def BigAddsWrongFalsely : Prop := bigAddsRow.holds Try.pinned (OpenSpec.ofChange bigAddsWrong)

/-- 'moneyerlaw03.BigMoves': WHATEVER THE INPUT: true; the input reads as it did. -/
def bigMovesSpec : ChangeSpec := { name := "bigMoves", fn := fun _ => fun
  | [d1, d2] => { results := [.lit (.bool true)], args := [d1, d2] }
  | _ => none }
def bigMovesRow : OpenClaim := { program := "ytepcjobghbanmaa", sum := "b93bd0f0417bc0ebc1afa28dc425e8d564fb0e2fde5b763652b9b124500cd781", func := "moneyer/moneyerlaw03.BigMoves", spec := "bigMoves", inPlace := ["math/bits.Sub64"], named := ["math/bits.divideError", "math/bits.overflowError"], apart := false }
def BigMovesSaid : Prop := bigMovesRow.holds Try.pinned (OpenSpec.ofChange bigMovesSpec)

/-- ITS FALSE NEIGHBOUR: 'it returns false'. Refute it at one input. -/
def bigMovesWrong : ChangeSpec := { name := "bigMoves", fn := fun _ => fun
  | [d1, d2] => { results := [.lit (.bool false)], args := [d1, d2] }
  | _ => none }
def BigMovesWrongFalsely : Prop := bigMovesRow.holds Try.pinned (OpenSpec.ofChange bigMovesWrong)

/-- 'moneyerlaw03.BigOf': WHATEVER THE INPUT: true; the input reads as it did. -/
def bigOfSpec : ChangeSpec := { name := "bigOf", fn := fun _ => fun
  | [d1, d2, d3, d4] => { results := [.lit (.bool true)], args := [d1, d2, d3, d4] }
  | _ => none }
def bigOfRow : OpenClaim := { program := "ytepcjobghbanmaa", sum := "b93bd0f0417bc0ebc1afa28dc425e8d564fb0e2fde5b763652b9b124500cd781", func := "moneyer/moneyerlaw03.BigOf", spec := "bigOf", inPlace := ["math/bits.Sub64"], named := ["math/bits.divideError", "math/bits.overflowError"], apart := false }
def BigOfSaid : Prop := bigOfRow.holds Try.pinned (OpenSpec.ofChange bigOfSpec)

/-- ITS FALSE NEIGHBOUR: 'it returns false'. Refute it at one input. -/
def bigOfWrong : ChangeSpec := { name := "bigOf", fn := fun _ => fun
  | [d1, d2, d3, d4] => { results := [.lit (.bool false)], args := [d1, d2, d3, d4] }
  | _ => none }
def BigOfWrongFalsely : Prop := bigOfRow.holds Try.pinned (OpenSpec.ofChange bigOfWrong)

/-- 'moneyerlaw03.BigMuls': WHATEVER THE INPUT: true; the input reads as it did. -/
def bigMulsSpec : ChangeSpec := { name := "bigMuls", fn := fun _ => fun
  | [d1, d2] => { results := [.lit (.bool true)], args := [d1, d2] }
  | _ => none }
def bigMulsRow : OpenClaim := { program := "ytepcjobghbanmaa", sum := "b93bd0f0417bc0ebc1afa28dc425e8d564fb0e2fde5b763652b9b124500cd781", func := "moneyer/moneyerlaw03.BigMuls", spec := "bigMuls", inPlace := ["math/bits.Add64", "math/bits.Sub64"], named := ["math/bits.divideError", "math/bits.overflowError"], apart := false }
def BigMulsSaid : Prop := bigMulsRow.holds Try.pinned (OpenSpec.ofChange bigMulsSpec)

/-- ITS FALSE NEIGHBOUR: 'it returns false'. Refute it at one input. -/
def bigMulsWrong : ChangeSpec := { name := "bigMuls", fn := fun _ => fun
  | [d1, d2] => { results := [.lit (.bool false)], args := [d1, d2] }
  | _ => none }
def BigMulsWrongFalsely : Prop := bigMulsRow.holds Try.pinned (OpenSpec.ofChange bigMulsWrong)

/-- 'moneyerlaw03.BigOrder': WHATEVER THE INPUT: true; the input reads as it did. -/
def bigOrderSpec : ChangeSpec := { name := "bigOrder", fn := fun _ => fun
  | [d1, d2, d3] => { results := [.lit (.bool true)], args := [d1, d2, d3] }
  | _ => none }
def bigOrderRow : OpenClaim := { program := "ytepcjobghbanmaa", sum := "b93bd0f0417bc0ebc1afa28dc425e8d564fb0e2fde5b763652b9b124500cd781", func := "moneyer/moneyerlaw03.BigOrder", spec := "bigOrder", inPlace := ["math/bits.Add64", "math/bits.Sub64"], named := ["math/bits.divideError", "math/bits.overflowError"], apart := false }
def BigOrderSaid : Prop := bigOrderRow.holds Try.pinned (OpenSpec.ofChange bigOrderSpec)

/-- ITS FALSE NEIGHBOUR: 'it returns false'. Refute it at one input. -/
def bigOrderWrong : ChangeSpec := { name := "bigOrder", fn := fun _ => fun
  | [d1, d2, d3] => { results := [.lit (.bool false)], args := [d1, d2, d3] }
  | _ => none }
def BigOrderWrongFalsely : Prop := bigOrderRow.holds Try.pinned (OpenSpec.ofChange bigOrderWrong)

/-- 'moneyerlaw03.BigBack': WHATEVER THE INPUT: true; the input reads as it did. -/
def bigBackSpec : ChangeSpec := { name := "bigBack", fn := fun _ => fun
  | [d1, d2] => { results := [.lit (.bool true)], args := [d1, d2] }
  | _ => none }
def bigBackRow : OpenClaim := { program := "ytepcjobghbanmaa", sum := "b93bd0f0417bc0ebc1afa28dc425e8d564fb0e2fde5b763652b9b124500cd781", func := "moneyer/moneyerlaw03.BigBack", spec := "bigBack", inPlace := ["math/bits.Sub64", "math/bits.Add64"], named := ["math/bits.divideError", "math/bits.overflowError"], apart := false }
def BigBackSaid : Prop := bigBackRow.holds Try.pinned (OpenSpec.ofChange bigBackSpec)

/-- ITS FALSE NEIGHBOUR: 'it returns false'. Refute it at one input. -/
def bigBackWrong : ChangeSpec := { name := "bigBack", fn := fun _ => fun
  | [d1, d2] => { results := [.lit (.bool false)], args := [d1, d2] }
  | _ => none }
def BigBackWrongFalsely : Prop := bigBackRow.holds Try.pinned (OpenSpec.ofChange bigBackWrong)

/-- 'moneyerlaw04.TargetOf': WHATEVER THE INPUT: true; the input reads as it did. -/
def targetOfSpec : ChangeSpec := { name := "targetOf", fn := fun _ => fun
  | [d1, d2] => { results := [.lit (.bool true)], args := [d1, d2] }
  | _ => none }
def targetOfRow : OpenClaim := { program := "ytepcjobghbanmaa", sum := "b93bd0f0417bc0ebc1afa28dc425e8d564fb0e2fde5b763652b9b124500cd781", func := "moneyer/moneyerlaw04.TargetOf", spec := "targetOf", inPlace := ["math/bits.Add64", "math/bits.Sub64"], named := ["math/bits.divideError", "math/bits.overflowError"], apart := false }
def TargetOfSaid : Prop := targetOfRow.holds Try.pinned (OpenSpec.ofChange targetOfSpec)

/-- ITS FALSE NEIGHBOUR: 'it returns false'. Refute it at one input. -/
def targetOfWrong : ChangeSpec := { name := "targetOf", fn := fun _ => fun
  | [d1, d2] => { results := [.lit (.bool false)], args := [d1, d2] }
  | _ => none }
def TargetOfWrongFalsely : Prop := targetOfRow.holds Try.pinned (OpenSpec.ofChange targetOfWrong)

/-- 'moneyerlaw04.TargetBack': WHATEVER THE INPUT: true; the input reads as it did. -/
def targetBackSpec : ChangeSpec := { name := "targetBack", fn := fun _ => fun
  | [d1, d2] => { results := [.lit (.bool true)], args := [d1, d2] }
  | _ => none }
def targetBackRow : OpenClaim := { program := "ytepcjobghbanmaa", sum := "b93bd0f0417bc0ebc1afa28dc425e8d564fb0e2fde5b763652b9b124500cd781", func := "moneyer/moneyerlaw04.TargetBack", spec := "targetBack", inPlace := ["math/bits.Add64", "math/bits.Sub64"], named := ["math/bits.divideError", "math/bits.overflowError"], apart := false }
def TargetBackSaid : Prop := targetBackRow.holds Try.pinned (OpenSpec.ofChange targetBackSpec)

/-- ITS FALSE NEIGHBOUR: 'it returns false'. Refute it at one input. -/
def targetBackWrong : ChangeSpec := { name := "targetBack", fn := fun _ => fun
  | [d1, d2] => { results := [.lit (.bool false)], args := [d1, d2] }
  | _ => none }
def TargetBackWrongFalsely : Prop := targetBackRow.holds Try.pinned (OpenSpec.ofChange targetBackWrong)

/-- 'moneyerlaw04.TargetWork': WHATEVER THE INPUT: true; the input reads as it did. -/
def targetWorkSpec : ChangeSpec := { name := "targetWork", fn := fun _ => fun
  | [d1, d2] => { results := [.lit (.bool true)], args := [d1, d2] }
  | _ => none }
def targetWorkRow : OpenClaim := { program := "ytepcjobghbanmaa", sum := "b93bd0f0417bc0ebc1afa28dc425e8d564fb0e2fde5b763652b9b124500cd781", func := "moneyer/moneyerlaw04.TargetWork", spec := "targetWork", inPlace := ["math/bits.Add64", "math/bits.Sub64"], named := ["math/bits.divideError", "math/bits.overflowError"], apart := false }
def TargetWorkSaid : Prop := targetWorkRow.holds Try.pinned (OpenSpec.ofChange targetWorkSpec)

/-- ITS FALSE NEIGHBOUR: 'it returns false'. Refute it at one input. -/
def targetWorkWrong : ChangeSpec := { name := "targetWork", fn := fun _ => fun
  | [d1, d2] => { results := [.lit (.bool false)], args := [d1, d2] }
  | _ => none }
def TargetWorkWrongFalsely : Prop := targetWorkRow.holds Try.pinned (OpenSpec.ofChange targetWorkWrong)

/-- 'moneyerlaw04.TargetSlow': WHATEVER THE INPUT: true; the input reads as it did. -/
def targetSlowSpec : ChangeSpec := { name := "targetSlow", fn := fun _ => fun
  | [d1, d2, d3] => { results := [.lit (.bool true)], args := [d1, d2, d3] }
  | _ => none }
def targetSlowRow : OpenClaim := { program := "ytepcjobghbanmaa", sum := "b93bd0f0417bc0ebc1afa28dc425e8d564fb0e2fde5b763652b9b124500cd781", func := "moneyer/moneyerlaw04.TargetSlow", spec := "targetSlow", inPlace := ["math/bits.Add64", "math/bits.Sub64"], named := ["math/bits.divideError", "math/bits.overflowError"], apart := false }
def TargetSlowSaid : Prop := targetSlowRow.holds Try.pinned (OpenSpec.ofChange targetSlowSpec)

/-- ITS FALSE NEIGHBOUR: 'it returns false'. Refute it at one input. -/
def targetSlowWrong : ChangeSpec := { name := "targetSlow", fn := fun _ => fun
  | [d1, d2, d3] => { results := [.lit (.bool false)], args := [d1, d2, d3] }
  | _ => none }
def TargetSlowWrongFalsely : Prop := targetSlowRow.holds Try.pinned (OpenSpec.ofChange targetSlowWrong)

/-- 'moneyerlaw04.TargetNext': WHATEVER THE INPUT: true; the input reads as it did. -/
def targetNextSpec : ChangeSpec := { name := "targetNext", fn := fun _ => fun
  | [d1, d2, d3, d4] => { results := [.lit (.bool true)], args := [d1, d2, d3, d4] }
  | _ => none }
def targetNextRow : OpenClaim := { program := "ytepcjobghbanmaa", sum := "b93bd0f0417bc0ebc1afa28dc425e8d564fb0e2fde5b763652b9b124500cd781", func := "moneyer/moneyerlaw04.TargetNext", spec := "targetNext", inPlace := ["math/bits.Add64", "math/bits.Sub64"], named := ["math/bits.divideError", "math/bits.overflowError"], apart := false }
def TargetNextSaid : Prop := targetNextRow.holds Try.pinned (OpenSpec.ofChange targetNextSpec)

/-- ITS FALSE NEIGHBOUR: 'it returns false'. Refute it at one input. -/
def targetNextWrong : ChangeSpec := { name := "targetNext", fn := fun _ => fun
  | [d1, d2, d3, d4] => { results := [.lit (.bool false)], args := [d1, d2, d3, d4] }
  | _ => none }
def TargetNextWrongFalsely : Prop := targetNextRow.holds Try.pinned (OpenSpec.ofChange targetNextWrong)

/- THE SECOND FORM. 'bulk': how many values and letters a reading holds, each counted each time it is reached (what is shared counts as often as it is met; a slice's spare places count too). A statement '..UptoSaid' is the law's where the arguments, and the package variables that the reading takes, are together of bulk at most 1048576: NARROWER than '..Said'. Prove '..Said' where nothing that the law and all that it calls make is longer than what came in: it says more and counts as full. Else prove '..UptoSaid'. A law counts once. -/
mutual
def uptoBulk {H : Type} : DataW H → Nat
  | .lit (.string bytes) => bytes.length + 1
  | .lit _ => 1
  | .nil => 1
  | .ptr d => uptoBulk d + 1
  | .slice elems spare => uptoBulkAll elems + uptoBulkAll spare + 1
  | .agg parts => uptoBulkAll parts + 1
  | .iface _ d => uptoBulk d + 1
  | .map entries => uptoBulkEntries entries + 1
  | .held _ => 1
def uptoBulkAll {H : Type} : List (DataW H) → Nat
  | [] => 0
  | d :: r => uptoBulk d + uptoBulkAll r
def uptoBulkEntries {H : Type} : List (Lit × DataW H) → Nat
  | [] => 0
  | x :: r => uptoBulkEntry x + uptoBulkEntries r
def uptoBulkEntry {H : Type} : Lit × DataW H → Nat
  | (.string bytes, d) => bytes.length + uptoBulk d + 1
  | (_, d) => uptoBulk d + 1
 end
def uptoSmall : (H : Type) → List (DataW H) → Bool := fun _ ds => decide (uptoBulkAll ds ≤ 1048576)
def OpenSpec.upto (s : _root_.Go.ChangeSpec) : _root_.Go.OpenSpec := { _root_.Go.OpenSpec.ofChange s with cond := some uptoSmall }

/-- 'moneyerlaw03.BigDivs', WHERE WHAT IT READS IS OF BULK AT MOST 1048576: true; the input reads as it did. -/
def bigDivsUptoRow : OpenClaim := { program := "ytepcjobghbanmaa", sum := "b93bd0f0417bc0ebc1afa28dc425e8d564fb0e2fde5b763652b9b124500cd781", func := "moneyer/moneyerlaw03.BigDivs", spec := "bigDivs", inPlace := ["math/bits.Sub64"], named := ["math/bits.divideError", "math/bits.overflowError"], apart := false, narrowed := true }
def BigDivsUptoSaid : Prop := bigDivsUptoRow.holds Try.pinned (OpenSpec.upto bigDivsSpec)

/-- 'moneyerlaw03.BigAdds', WHERE WHAT IT READS IS OF BULK AT MOST 1048576: true; the input reads as it did. -/
def bigAddsUptoRow : OpenClaim := { program := "ytepcjobghbanmaa", sum := "b93bd0f0417bc0ebc1afa28dc425e8d564fb0e2fde5b763652b9b124500cd781", func := "moneyer/moneyerlaw03.BigAdds", spec := "bigAdds", inPlace := ["math/bits.Add64", "math/bits.Sub64"], named := ["math/bits.divideError", "math/bits.overflowError"], apart := false, narrowed := true }
def BigAddsUptoSaid : Prop := bigAddsUptoRow.holds Try.pinned (OpenSpec.upto bigAddsSpec)

/-- 'moneyerlaw03.BigMoves', WHERE WHAT IT READS IS OF BULK AT MOST 1048576: true; the input reads as it did. -/
def bigMovesUptoRow : OpenClaim := { program := "ytepcjobghbanmaa", sum := "b93bd0f0417bc0ebc1afa28dc425e8d564fb0e2fde5b763652b9b124500cd781", func := "moneyer/moneyerlaw03.BigMoves", spec := "bigMoves", inPlace := ["math/bits.Sub64"], named := ["math/bits.divideError", "math/bits.overflowError"], apart := false, narrowed := true }
def BigMovesUptoSaid : Prop := bigMovesUptoRow.holds Try.pinned (OpenSpec.upto bigMovesSpec)

/-- 'moneyerlaw03.BigOf', WHERE WHAT IT READS IS OF BULK AT MOST 1048576: true; the input reads as it did. -/
def bigOfUptoRow : OpenClaim := { program := "ytepcjobghbanmaa", sum := "b93bd0f0417bc0ebc1afa28dc425e8d564fb0e2fde5b763652b9b124500cd781", func := "moneyer/moneyerlaw03.BigOf", spec := "bigOf", inPlace := ["math/bits.Sub64"], named := ["math/bits.divideError", "math/bits.overflowError"], apart := false, narrowed := true }
def BigOfUptoSaid : Prop := bigOfUptoRow.holds Try.pinned (OpenSpec.upto bigOfSpec)

/-- 'moneyerlaw03.BigMuls', WHERE WHAT IT READS IS OF BULK AT MOST 1048576: true; the input reads as it did. -/
def bigMulsUptoRow : OpenClaim := { program := "ytepcjobghbanmaa", sum := "b93bd0f0417bc0ebc1afa28dc425e8d564fb0e2fde5b763652b9b124500cd781", func := "moneyer/moneyerlaw03.BigMuls", spec := "bigMuls", inPlace := ["math/bits.Add64", "math/bits.Sub64"], named := ["math/bits.divideError", "math/bits.overflowError"], apart := false, narrowed := true }
def BigMulsUptoSaid : Prop := bigMulsUptoRow.holds Try.pinned (OpenSpec.upto bigMulsSpec)

/-- 'moneyerlaw03.BigOrder', WHERE WHAT IT READS IS OF BULK AT MOST 1048576: true; the input reads as it did. -/
def bigOrderUptoRow : OpenClaim := { program := "ytepcjobghbanmaa", sum := "b93bd0f0417bc0ebc1afa28dc425e8d564fb0e2fde5b763652b9b124500cd781", func := "moneyer/moneyerlaw03.BigOrder", spec := "bigOrder", inPlace := ["math/bits.Add64", "math/bits.Sub64"], named := ["math/bits.divideError", "math/bits.overflowError"], apart := false, narrowed := true }
def BigOrderUptoSaid : Prop := bigOrderUptoRow.holds Try.pinned (OpenSpec.upto bigOrderSpec)

/-- 'moneyerlaw03.BigBack', WHERE WHAT IT READS IS OF BULK AT MOST 1048576: true; the input reads as it did. -/
def bigBackUptoRow : OpenClaim := { program := "ytepcjobghbanmaa", sum := "b93bd0f0417bc0ebc1afa28dc425e8d564fb0e2fde5b763652b9b124500cd781", func := "moneyer/moneyerlaw03.BigBack", spec := "bigBack", inPlace := ["math/bits.Sub64", "math/bits.Add64"], named := ["math/bits.divideError", "math/bits.overflowError"], apart := false, narrowed := true }
def BigBackUptoSaid : Prop := bigBackUptoRow.holds Try.pinned (OpenSpec.upto bigBackSpec)

/-- 'moneyerlaw04.TargetOf', WHERE WHAT IT READS IS OF BULK AT MOST 1048576: true; the input reads as it did. -/
def targetOfUptoRow : OpenClaim := { program := "ytepcjobghbanmaa", sum := "b93bd0f0417bc0ebc1afa28dc425e8d564fb0e2fde5b763652b9b124500cd781", func := "moneyer/moneyerlaw04.TargetOf", spec := "targetOf", inPlace := ["math/bits.Add64", "math/bits.Sub64"], named := ["math/bits.divideError", "math/bits.overflowError"], apart := false, narrowed := true }
def TargetOfUptoSaid : Prop := targetOfUptoRow.holds Try.pinned (OpenSpec.upto targetOfSpec)

/-- 'moneyerlaw04.TargetBack', WHERE WHAT IT READS IS OF BULK AT MOST 1048576: true; the input reads as it did. -/
def targetBackUptoRow : OpenClaim := { program := "ytepcjobghbanmaa", sum := "b93bd0f0417bc0ebc1afa28dc425e8d564fb0e2fde5b763652b9b124500cd781", func := "moneyer/moneyerlaw04.TargetBack", spec := "targetBack", inPlace := ["math/bits.Add64", "math/bits.Sub64"], named := ["math/bits.divideError", "math/bits.overflowError"], apart := false, narrowed := true }
def TargetBackUptoSaid : Prop := targetBackUptoRow.holds Try.pinned (OpenSpec.upto targetBackSpec)

/-- 'moneyerlaw04.TargetWork', WHERE WHAT IT READS IS OF BULK AT MOST 1048576: true; the input reads as it did. -/
def targetWorkUptoRow : OpenClaim := { program := "ytepcjobghbanmaa", sum := "b93bd0f0417bc0ebc1afa28dc425e8d564fb0e2fde5b763652b9b124500cd781", func := "moneyer/moneyerlaw04.TargetWork", spec := "targetWork", inPlace := ["math/bits.Add64", "math/bits.Sub64"], named := ["math/bits.divideError", "math/bits.overflowError"], apart := false, narrowed := true }
def TargetWorkUptoSaid : Prop := targetWorkUptoRow.holds Try.pinned (OpenSpec.upto targetWorkSpec)

/-- 'moneyerlaw04.TargetSlow', WHERE WHAT IT READS IS OF BULK AT MOST 1048576: true; the input reads as it did. -/
def targetSlowUptoRow : OpenClaim := { program := "ytepcjobghbanmaa", sum := "b93bd0f0417bc0ebc1afa28dc425e8d564fb0e2fde5b763652b9b124500cd781", func := "moneyer/moneyerlaw04.TargetSlow", spec := "targetSlow", inPlace := ["math/bits.Add64", "math/bits.Sub64"], named := ["math/bits.divideError", "math/bits.overflowError"], apart := false, narrowed := true }
def TargetSlowUptoSaid : Prop := targetSlowUptoRow.holds Try.pinned (OpenSpec.upto targetSlowSpec)

/-- 'moneyerlaw04.TargetNext', WHERE WHAT IT READS IS OF BULK AT MOST 1048576: true; the input reads as it did. -/
def targetNextUptoRow : OpenClaim := { program := "ytepcjobghbanmaa", sum := "b93bd0f0417bc0ebc1afa28dc425e8d564fb0e2fde5b763652b9b124500cd781", func := "moneyer/moneyerlaw04.TargetNext", spec := "targetNext", inPlace := ["math/bits.Add64", "math/bits.Sub64"], named := ["math/bits.divideError", "math/bits.overflowError"], apart := false, narrowed := true }
def TargetNextUptoSaid : Prop := targetNextUptoRow.holds Try.pinned (OpenSpec.upto targetNextSpec)

end Rows
end Go.Proofs.Ytepcjobghbanmaa
