/-
  No cell of these rows narrows 'for every input' (looked for: loops, veiled, ifaces, maps, wideKeys, modest, calm, conditions, laid).
  DERIVED. THE GIVEN ROWS OF THIS SEAT. 6 by the template 'for every input the law returns true; each argument reads behind the call as it read before'; 0 by the template 'total and deterministic' (their statements: YtpgpagmnhikpiaaTotals.lean).
  GIVEN WITH THE SEED: the statements are not yours to turn. If you find one false, say at which input.
  Laid BY PROGRAM, IN A SANDBOX (cutbox-rows.mjs): the forced cells as the released guide's own fill.sh prints them over the translation 3c1c36cf20bfc036… (all of the seat's roots in one cut). By AI agents, Wed Nov 11 2026. No macro, syntax, notation, axiom, sorry.
-/
import Derived.Test.YtpgpagmnhikpiaaChecked
import GoSem.Claim
import GoSem.ClaimJoined
import GoSem.ClaimMapViews
import Derived.JoinedTies
import Derived.KernelRfl
namespace Go.Proofs.Ytpgpagmnhikpiaa
/- THE CELL 'sum', in the pinned program and in every row, IS THE sha256 OF THE DUMP (.gsa) THAT YtpgpagmnhikpiaaProg.lean LOADS. Nothing in Lean hashes anything: it is a label: what it is worth is what the hold of that sum in a sandbox is worth. -/
noncomputable def Try.pinned : Pinned := { name := "ytpgpagmnhikpiaa", sum := "3c1c36cf20bfc036c2c2b7b2d0051dec8fe28bf95e866619fea5a57b778bf859", checked := Try.checked }
namespace Rows
def none {H : Type} : Left H := { results := [], args := [] }

/-- 'moneyerlaw12.CellTwo': WHATEVER THE INPUT: true; the input reads as it did. -/
def cellTwoSpec : ChangeSpec := { name := "cellTwo", fn := fun _ => fun
  | [d1, d2, d3] => { results := [.lit (.bool true)], args := [d1, d2, d3] }
  | _ => none }
def cellTwoRow : OpenClaim := { program := "ytpgpagmnhikpiaa", sum := "3c1c36cf20bfc036c2c2b7b2d0051dec8fe28bf95e866619fea5a57b778bf859", func := "moneyer/moneyerlaw12.CellTwo", spec := "cellTwo", apart := false }
def CellTwoSaid : Prop := cellTwoRow.holds Try.pinned (OpenSpec.ofChange cellTwoSpec)

/-- ITS FALSE NEIGHBOUR: 'it returns false'. Refute it at one input. -/
def cellTwoWrong : ChangeSpec := { name := "cellTwo", fn := fun _ => fun
  | [d1, d2, d3] => { results := [.lit (.bool false)], args := [d1, d2, d3] }
  | _ => none }
def CellTwoWrongFalsely : Prop := cellTwoRow.holds Try.pinned (OpenSpec.ofChange cellTwoWrong)

/-- 'moneyerlaw12.CellBack': WHATEVER THE INPUT: true; the input reads as it did. -/
def cellBackSpec : ChangeSpec := { name := "cellBack", fn := fun _ => fun
  | [d1, d2] => { results := [.lit (.bool true)], args := [d1, d2] }
  | _ => none }
def cellBackRow : OpenClaim := { program := "ytpgpagmnhikpiaa", sum := "3c1c36cf20bfc036c2c2b7b2d0051dec8fe28bf95e866619fea5a57b778bf859", func := "moneyer/moneyerlaw12.CellBack", spec := "cellBack", apart := false }
def CellBackSaid : Prop := cellBackRow.holds Try.pinned (OpenSpec.ofChange cellBackSpec)

/-- ITS FALSE NEIGHBOUR: 'it returns false'. Refute it at one input. -/
def cellBackWrong : ChangeSpec := { name := "cellBack", fn := fun _ => fun
  | [d1, d2] => { results := [.lit (.bool false)], args := [d1, d2] }
  | _ => none }
def CellBackWrongFalsely : Prop := cellBackRow.holds Try.pinned (OpenSpec.ofChange cellBackWrong)

/-- 'moneyerlaw12.CellOrder': WHATEVER THE INPUT: true; the input reads as it did. -/
def cellOrderSpec : ChangeSpec := { name := "cellOrder", fn := fun _ => fun
  | [d1, d2] => { results := [.lit (.bool true)], args := [d1, d2] }
  | _ => none }
def cellOrderRow : OpenClaim := { program := "ytpgpagmnhikpiaa", sum := "3c1c36cf20bfc036c2c2b7b2d0051dec8fe28bf95e866619fea5a57b778bf859", func := "moneyer/moneyerlaw12.CellOrder", spec := "cellOrder", apart := false }
def CellOrderSaid : Prop := cellOrderRow.holds Try.pinned (OpenSpec.ofChange cellOrderSpec)

/-- ITS FALSE NEIGHBOUR: 'it returns false'. Refute it at one input. -/
def cellOrderWrong : ChangeSpec := { name := "cellOrder", fn := fun _ => fun
  | [d1, d2] => { results := [.lit (.bool false)], args := [d1, d2] }
  | _ => none }
def CellOrderWrongFalsely : Prop := cellOrderRow.holds Try.pinned (OpenSpec.ofChange cellOrderWrong)

/-- 'moneyerlaw12.CellNumbers': WHATEVER THE INPUT: true; the input reads as it did. -/
def cellNumbersSpec : ChangeSpec := { name := "cellNumbers", fn := fun _ => fun
  | [d1, d2, d3] => { results := [.lit (.bool true)], args := [d1, d2, d3] }
  | _ => none }
def cellNumbersRow : OpenClaim := { program := "ytpgpagmnhikpiaa", sum := "3c1c36cf20bfc036c2c2b7b2d0051dec8fe28bf95e866619fea5a57b778bf859", func := "moneyer/moneyerlaw12.CellNumbers", spec := "cellNumbers", apart := false }
def CellNumbersSaid : Prop := cellNumbersRow.holds Try.pinned (OpenSpec.ofChange cellNumbersSpec)

/-- ITS FALSE NEIGHBOUR: 'it returns false'. Refute it at one input. -/
def cellNumbersWrong : ChangeSpec := { name := "cellNumbers", fn := fun _ => fun
  | [d1, d2, d3] => { results := [.lit (.bool false)], args := [d1, d2, d3] }
  | _ => none }
def CellNumbersWrongFalsely : Prop := cellNumbersRow.holds Try.pinned (OpenSpec.ofChange cellNumbersWrong)

/-- 'moneyerlaw12.CellStacks': WHATEVER THE INPUT: true; the input reads as it did. -/
def cellStacksSpec : ChangeSpec := { name := "cellStacks", fn := fun _ => fun
  | [d1, d2, d3] => { results := [.lit (.bool true)], args := [d1, d2, d3] }
  | _ => none }
def cellStacksRow : OpenClaim := { program := "ytpgpagmnhikpiaa", sum := "3c1c36cf20bfc036c2c2b7b2d0051dec8fe28bf95e866619fea5a57b778bf859", func := "moneyer/moneyerlaw12.CellStacks", spec := "cellStacks", apart := false }
def CellStacksSaid : Prop := cellStacksRow.holds Try.pinned (OpenSpec.ofChange cellStacksSpec)

/-- ITS FALSE NEIGHBOUR: 'it returns false'. Refute it at one input. -/
def cellStacksWrong : ChangeSpec := { name := "cellStacks", fn := fun _ => fun
  | [d1, d2, d3] => { results := [.lit (.bool false)], args := [d1, d2, d3] }
  | _ => none }
def CellStacksWrongFalsely : Prop := cellStacksRow.holds Try.pinned (OpenSpec.ofChange cellStacksWrong)

/-- 'moneyerlaw12.CellPops': WHATEVER THE INPUT: true; the input reads as it did. -/
def cellPopsSpec : ChangeSpec := { name := "cellPops", fn := fun _ => fun
  | [d1, d2, d3] => { results := [.lit (.bool true)], args := [d1, d2, d3] }
  | _ => none }
def cellPopsRow : OpenClaim := { program := "ytpgpagmnhikpiaa", sum := "3c1c36cf20bfc036c2c2b7b2d0051dec8fe28bf95e866619fea5a57b778bf859", func := "moneyer/moneyerlaw12.CellPops", spec := "cellPops", apart := false }
def CellPopsSaid : Prop := cellPopsRow.holds Try.pinned (OpenSpec.ofChange cellPopsSpec)

/-- ITS FALSE NEIGHBOUR: 'it returns false'. Refute it at one input. -/
def cellPopsWrong : ChangeSpec := { name := "cellPops", fn := fun _ => fun
  | [d1, d2, d3] => { results := [.lit (.bool false)], args := [d1, d2, d3] }
  | _ => none }
def CellPopsWrongFalsely : Prop := cellPopsRow.holds Try.pinned (OpenSpec.ofChange cellPopsWrong)

/- THE SECOND FORM. 'bulk': how many values and letters a reading holds, each counted each time it is reached (what is shared counts as often as it is met; a slice's spare places count too). A statement '..UptoSaid' is the law's where the arguments, and the package variables that the reading takes, are together of bulk at most 1048576: NARROWER than '..Said'. Prove '..Said' where nothing that the law and all that it calls make is longer than what came in: it says more and counts as full. Else prove '..UptoSaid'. A law counts once. -/
mutual
def uptoBulk {H : Type} : DataW H → Nat
  | .lit (.string bytes) => bytes.length + 1
  | .lit _ => 1
  | .nil => 1
  | .ptr d => uptoBulk d + 1
  | .slice elems spare => uptoBulkAll elems + uptoBulkAll spare + 1
  | .agg parts => uptoBulkAll parts + 1
  | .iface _ d => uptoBulk d + 1
  | .map entries => uptoBulkEntries entries + 1
  | .held _ => 1
def uptoBulkAll {H : Type} : List (DataW H) → Nat
  | [] => 0
  | d :: r => uptoBulk d + uptoBulkAll r
def uptoBulkEntries {H : Type} : List (Lit × DataW H) → Nat
  | [] => 0
  | x :: r => uptoBulkEntry x + uptoBulkEntries r
def uptoBulkEntry {H : Type} : Lit × DataW H → Nat
  | (.string bytes, d) => bytes.length + uptoBulk d + 1
  | (_, d) => uptoBulk d + 1
 end
def uptoSmall : (H : Type) → List (DataW H) → Bool := fun _ ds => decide (uptoBulkAll ds ≤ 1048576)
def OpenSpec.upto (s : _root_.Go.ChangeSpec) : _root_.Go.OpenSpec := { _root_.Go.OpenSpec.ofChange s with cond := some uptoSmall }

/-- 'moneyerlaw12.CellTwo', WHERE WHAT IT READS IS OF BULK AT MOST 1048576: true; the input reads as it did. -/
def cellTwoUptoRow : OpenClaim := { program := "ytpgpagmnhikpiaa", sum := "3c1c36cf20bfc036c2c2b7b2d0051dec8fe28bf95e866619fea5a57b778bf859", func := "moneyer/moneyerlaw12.CellTwo", spec := "cellTwo", apart := false, narrowed := true }
def CellTwoUptoSaid : Prop := cellTwoUptoRow.holds Try.pinned (OpenSpec.upto cellTwoSpec)

/-- 'moneyerlaw12.CellBack', WHERE WHAT IT READS IS OF BULK AT MOST 1048576: true; the input reads as it did. -/
def cellBackUptoRow : OpenClaim := { program := "ytpgpagmnhikpiaa", sum := "3c1c36cf20bfc036c2c2b7b2d0051dec8fe28bf95e866619fea5a57b778bf859", func := "moneyer/moneyerlaw12.CellBack", spec := "cellBack", apart := false, narrowed := true }
def CellBackUptoSaid : Prop := cellBackUptoRow.holds Try.pinned (OpenSpec.upto cellBackSpec)

/-- 'moneyerlaw12.CellOrder', WHERE WHAT IT READS IS OF BULK AT MOST 1048576: true; the input reads as it did. -/
def cellOrderUptoRow : OpenClaim := { program := "ytpgpagmnhikpiaa", sum := "3c1c36cf20bfc036c2c2b7b2d0051dec8fe28bf95e866619fea5a57b778bf859", func := "moneyer/moneyerlaw12.CellOrder", spec := "cellOrder", apart := false, narrowed := true }
def CellOrderUptoSaid : Prop := cellOrderUptoRow.holds Try.pinned (OpenSpec.upto cellOrderSpec)

/-- 'moneyerlaw12.CellNumbers', WHERE WHAT IT READS IS OF BULK AT MOST 1048576: true; the input reads as it did. -/
def cellNumbersUptoRow : OpenClaim := { program := "ytpgpagmnhikpiaa", sum := "3c1c36cf20bfc036c2c2b7b2d0051dec8fe28bf95e866619fea5a57b778bf859", func := "moneyer/moneyerlaw12.CellNumbers", spec := "cellNumbers", apart := false, narrowed := true }
def CellNumbersUptoSaid : Prop := cellNumbersUptoRow.holds Try.pinned (OpenSpec.upto cellNumbersSpec)

/-- 'moneyerlaw12.CellStacks', WHERE WHAT IT READS IS OF BULK AT MOST 1048576: true; the input reads as it did. -/
def cellStacksUptoRow : OpenClaim := { program := "ytpgpagmnhikpiaa", sum := "3c1c36cf20bfc036c2c2b7b2d0051dec8fe28bf95e866619fea5a57b778bf859", func := "moneyer/moneyerlaw12.CellStacks", spec := "cellStacks", apart := false, narrowed := true }
def CellStacksUptoSaid : Prop := cellStacksUptoRow.holds Try.pinned (OpenSpec.upto cellStacksSpec)

/-- 'moneyerlaw12.CellPops', WHERE WHAT IT READS IS OF BULK AT MOST 1048576: true; the input reads as it did. -/
def cellPopsUptoRow : OpenClaim := { program := "ytpgpagmnhikpiaa", sum := "3c1c36cf20bfc036c2c2b7b2d0051dec8fe28bf95e866619fea5a57b778bf859", func := "moneyer/moneyerlaw12.CellPops", spec := "cellPops", apart := false, narrowed := true }
def CellPopsUptoSaid : Prop := cellPopsUptoRow.holds Try.pinned (OpenSpec.upto cellPopsSpec)

end Rows
end Go.Proofs.Ytpgpagmnhikpiaa
