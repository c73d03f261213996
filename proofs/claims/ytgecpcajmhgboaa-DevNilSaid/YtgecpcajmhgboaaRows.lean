/-
  No cell of these rows narrows 'for every input' (looked for: loops, veiled, ifaces, maps, wideKeys, modest, calm, conditions, laid).
  DERIVED. THE GIVEN ROWS OF THIS SEAT. 5 by the template 'for every input the law returns true; each argument reads behind the call as it read before'; 0 by the template 'total and deterministic' (their statements: YtgecpcajmhgboaaTotals.lean).
  GIVEN WITH THE SEED: the statements are not yours to turn. If you find one false, say at which input.
  Laid BY PROGRAM, IN A SANDBOX (cutbox-rows.mjs): the forced cells as the released guide's own fill.sh prints them over the translation 97210b46b21b285b… (all of the seat's roots in one cut). By AI agents, Wed Nov 11 2026. No macro, syntax, notation, axiom, sorry.
-/
import Derived.Test.YtgecpcajmhgboaaChecked
import GoSem.Claim
import GoSem.ClaimJoined
import GoSem.ClaimMapViews
import Derived.JoinedTies
import Derived.KernelRfl
namespace Go.Proofs.Ytgecpcajmhgboaa
/- THE CELL 'sum', in the pinned program and in every row, IS THE sha256 OF THE DUMP (.gsa) THAT YtgecpcajmhgboaaProg.lean LOADS. Nothing in Lean hashes anything: it is a label: what it is worth is what the hold of that sum in a sandbox is worth. -/
noncomputable def Try.pinned : Pinned := { name := "ytgecpcajmhgboaa", sum := "97210b46b21b285b89ca2d32ecbd0b13f398020a8a59ce2d8d1e4681a70662fb", checked := Try.checked }
namespace Rows
def none {H : Type} : Left H := { results := [], args := [] }

/-- 'moneyerlaw21.DevFresh': WHATEVER THE INPUT: true; the input reads as it did. -/
def devFreshSpec : ChangeSpec := { name := "devFresh", fn := fun _ => fun
  | [d1, d2] => { results := [.lit (.bool true)], args := [d1, d2] }
  | _ => none }
def devFreshRow : OpenClaim := { program := "ytgecpcajmhgboaa", sum := "97210b46b21b285b89ca2d32ecbd0b13f398020a8a59ce2d8d1e4681a70662fb", func := "moneyer/moneyerlaw21.DevFresh", spec := "devFresh", apart := false }
def DevFreshSaid : Prop := devFreshRow.holds Try.pinned (OpenSpec.ofChange devFreshSpec)

/-- ITS FALSE NEIGHBOUR: 'it returns false'. Refute it at one input. -/
def devFreshWrong : ChangeSpec := { name := "devFresh", fn := fun _ => fun
  | [d1, d2] => { results := [.lit (.bool false)], args := [d1, d2] }
  | _ => none }
def DevFreshWrongFalsely : Prop := devFreshRow.holds Try.pinned (OpenSpec.ofChange devFreshWrong)

/-- 'moneyerlaw21.DevAll': WHATEVER THE INPUT: true; the input reads as it did. -/
def devAllSpec : ChangeSpec := { name := "devAll", fn := fun _ => fun
  | [d1, d2] => { results := [.lit (.bool true)], args := [d1, d2] }
  | _ => none }
def devAllRow : OpenClaim := { program := "ytgecpcajmhgboaa", sum := "97210b46b21b285b89ca2d32ecbd0b13f398020a8a59ce2d8d1e4681a70662fb", func := "moneyer/moneyerlaw21.DevAll", spec := "devAll", apart := false }
def DevAllSaid : Prop := devAllRow.holds Try.pinned (OpenSpec.ofChange devAllSpec)

/-- ITS FALSE NEIGHBOUR: 'it returns false'. Refute it at one input. -/
def devAllWrong : ChangeSpec := { name := "devAll", fn := fun _ => fun
  | [d1, d2] => { results := [.lit (.bool false)], args := [d1, d2] }
  | _ => none }
def DevAllWrongFalsely : Prop := devAllRow.holds Try.pinned (OpenSpec.ofChange devAllWrong)

/-- 'moneyerlaw21.DevSure': WHATEVER THE INPUT: true; the input reads as it did. -/
def devSureSpec : ChangeSpec := { name := "devSure", fn := fun _ => fun
  | [d1, d2, d3, d4] => { results := [.lit (.bool true)], args := [d1, d2, d3, d4] }
  | _ => none }
def devSureRow : OpenClaim := { program := "ytgecpcajmhgboaa", sum := "97210b46b21b285b89ca2d32ecbd0b13f398020a8a59ce2d8d1e4681a70662fb", func := "moneyer/moneyerlaw21.DevSure", spec := "devSure", apart := false }
def DevSureSaid : Prop := devSureRow.holds Try.pinned (OpenSpec.ofChange devSureSpec)

/-- ITS FALSE NEIGHBOUR: 'it returns false'. Refute it at one input. -/
def devSureWrong : ChangeSpec := { name := "devSure", fn := fun _ => fun
  | [d1, d2, d3, d4] => { results := [.lit (.bool false)], args := [d1, d2, d3, d4] }
  | _ => none }
def DevSureWrongFalsely : Prop := devSureRow.holds Try.pinned (OpenSpec.ofChange devSureWrong)

/-- 'moneyerlaw21.DevPlays': WHATEVER THE INPUT: true; the input reads as it did. -/
def devPlaysSpec : ChangeSpec := { name := "devPlays", fn := fun _ => fun
  | [d1, d2] => { results := [.lit (.bool true)], args := [d1, d2] }
  | _ => none }
def devPlaysRow : OpenClaim := { program := "ytgecpcajmhgboaa", sum := "97210b46b21b285b89ca2d32ecbd0b13f398020a8a59ce2d8d1e4681a70662fb", func := "moneyer/moneyerlaw21.DevPlays", spec := "devPlays", apart := false }
def DevPlaysSaid : Prop := devPlaysRow.holds Try.pinned (OpenSpec.ofChange devPlaysSpec)

/-- ITS FALSE NEIGHBOUR: 'it returns false'. Refute it at one input. -/
def devPlaysWrong : ChangeSpec := { name := "devPlays", fn := fun _ => fun
  | [d1, d2] => { results := [.lit (.bool false)], args := [d1, d2] }
  | _ => none }
def DevPlaysWrongFalsely : Prop := devPlaysRow.holds Try.pinned (OpenSpec.ofChange devPlaysWrong)

/-- 'moneyerlaw21.DevNil': WHATEVER THE INPUT: true; the input reads as it did. -/
def devNilSpec : ChangeSpec := { name := "devNil", fn := fun _ => fun
  | [d1, d2, d3] => { results := [.lit (.bool true)], args := [d1, d2, d3] }
  | _ => none }
def devNilRow : OpenClaim := { program := "ytgecpcajmhgboaa", sum := "97210b46b21b285b89ca2d32ecbd0b13f398020a8a59ce2d8d1e4681a70662fb", func := "moneyer/moneyerlaw21.DevNil", spec := "devNil", apart := false }
def DevNilSaid : Prop := devNilRow.holds Try.pinned (OpenSpec.ofChange devNilSpec)

/-- ITS FALSE NEIGHBOUR: 'it returns false'. Refute it at one input. -/
def devNilWrong : ChangeSpec := { name := "devNil", fn := fun _ => fun
  | [d1, d2, d3] => { results := [.lit (.bool false)], args := [d1, d2, d3] }
  | _ => none }
def DevNilWrongFalsely : Prop := devNilRow.holds Try.pinned (OpenSpec.ofChange devNilWrong)

/- THE SECOND FORM. 'bulk': how many values and letters a reading holds, each counted each time it is reached (what is shared counts as often as it is met; a slice's spare places count too). A statement '..UptoSaid' is the law's where the arguments, and the package variables that the reading takes, are together of bulk at most 1048576: NARROWER than '..Said'. Prove '..Said' where nothing that the law and all that it calls make is longer than what came in: it says more and counts as full. Else prove '..UptoSaid'. A law counts once. -/
mutual
def uptoBulk {H : Type} : DataW H → Nat
  | .lit (.string bytes) => bytes.length + 1
  | .lit _ => 1
  | .nil => 1
  | .ptr d => uptoBulk d + 1
  | .slice elems spare => uptoBulkAll elems + uptoBulkAll spare + 1
  | .agg parts => uptoBulkAll parts + 1
  | .iface _ d => uptoBulk d + 1
  | .map entries => uptoBulkEntries entries + 1
  | .held _ => 1
def uptoBulkAll {H : Type} : List (DataW H) → Nat
  | [] => 0
  | d :: r => uptoBulk d + uptoBulkAll r
def uptoBulkEntries {H : Type} : List (Lit × DataW H) → Nat
  | [] => 0
  | x :: r => uptoBulkEntry x + uptoBulkEntries r
def uptoBulkEntry {H : Type} : Lit × DataW H → Nat
  | (.string bytes, d) => bytes.length + uptoBulk d + 1
  | (_, d) => uptoBulk d + 1
 end
def uptoSmall : (H : Type) → List (DataW H) → Bool := fun _ ds => decide (uptoBulkAll ds ≤ 1048576)
def OpenSpec.upto (s : _root_.Go.ChangeSpec) : _root_.Go.OpenSpec := { _root_.Go.OpenSpec.ofChange s with cond := some uptoSmall }

/-- 'moneyerlaw21.DevFresh', WHERE WHAT IT READS IS OF BULK AT MOST 1048576: true; the input reads as it did. -/
def devFreshUptoRow : OpenClaim := { program := "ytgecpcajmhgboaa", sum := "97210b46b21b285b89ca2d32ecbd0b13f398020a8a59ce2d8d1e4681a70662fb", func := "moneyer/moneyerlaw21.DevFresh", spec := "devFresh", apart := false, narrowed := true }
def DevFreshUptoSaid : Prop := devFreshUptoRow.holds Try.pinned (OpenSpec.upto devFreshSpec)

/-- 'moneyerlaw21.DevAll', WHERE WHAT IT READS IS OF BULK AT MOST 1048576: true; the input reads as it did. -/
def devAllUptoRow : OpenClaim := { program := "ytgecpcajmhgboaa", sum := "97210b46b21b285b89ca2d32ecbd0b13f398020a8a59ce2d8d1e4681a70662fb", func := "moneyer/moneyerlaw21.DevAll", spec := "devAll", apart := false, narrowed := true }
def DevAllUptoSaid : Prop := devAllUptoRow.holds Try.pinned (OpenSpec.upto devAllSpec)

/-- 'moneyerlaw21.DevSure', WHERE WHAT IT READS IS OF BULK AT MOST 1048576: true; the input reads as it did. -/
def devSureUptoRow : OpenClaim := { program := "ytgecpcajmhgboaa", sum := "97210b46b21b285b89ca2d32ecbd0b13f398020a8a59ce2d8d1e4681a70662fb", func := "moneyer/moneyerlaw21.DevSure", spec := "devSure", apart := false, narrowed := true }
def DevSureUptoSaid : Prop := devSureUptoRow.holds Try.pinned (OpenSpec.upto devSureSpec)

/-- 'moneyerlaw21.DevPlays', WHERE WHAT IT READS IS OF BULK AT MOST 1048576: true; the input reads as it did. -/
def devPlaysUptoRow : OpenClaim := { program := "ytgecpcajmhgboaa", sum := "97210b46b21b285b89ca2d32ecbd0b13f398020a8a59ce2d8d1e4681a70662fb", func := "moneyer/moneyerlaw21.DevPlays", spec := "devPlays", apart := false, narrowed := true }
def DevPlaysUptoSaid : Prop := devPlaysUptoRow.holds Try.pinned (OpenSpec.upto devPlaysSpec)

/-- 'moneyerlaw21.DevNil', WHERE WHAT IT READS IS OF BULK AT MOST 1048576: true; the input reads as it did. -/
def devNilUptoRow : OpenClaim := { program := "ytgecpcajmhgboaa", sum := "97210b46b21b285b89ca2d32ecbd0b13f398020a8a59ce2d8d1e4681a70662fb", func := "moneyer/moneyerlaw21.DevNil", spec := "devNil", apart := false, narrowed := true }
def DevNilUptoSaid : Prop := devNilUptoRow.holds Try.pinned (OpenSpec.upto devNilSpec)

end Rows
end Go.Proofs.Ytgecpcajmhgboaa
