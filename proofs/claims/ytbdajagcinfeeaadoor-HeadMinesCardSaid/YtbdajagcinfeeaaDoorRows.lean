/-
  NARROWER THAN 'FOR EVERY INPUT', by the rows' own cells (each row's printed sentence says how): MerkleOne: laid · MerkleFresh: laid · MerkleTells: laid · MerkleWays: laid · HeadPuts: laid · HeadGets: laid · HeadMines: laid · HeadMined: laid.
  DERIVED. THE GIVEN ROWS OF THIS SEAT. 8 by the template 'for every input the law returns true; each argument reads behind the call as it read before'; 0 by the template 'total and deterministic' (their statements: YtbdajagcinfeeaaDoorTotals.lean).
  GIVEN WITH THE SEED: the statements are not yours to turn. If you find one false, say at which input.
  Laid BY PROGRAM, IN A SANDBOX (cutbox-rows.mjs): the forced cells as the released guide's own fill.sh prints them over the translation 170a087ac24a767b… (all of the seat's roots in one cut). By AI agents, Wed Nov 11 2026. No macro, syntax, notation, axiom, sorry.
-/
import Derived.Test.YtbdajagcinfeeaaDoorChecked
import GoSem.Claim
import GoSem.ClaimJoined
import GoSem.ClaimMapViews
import Derived.JoinedTies
import Derived.KernelRfl
namespace Go.Proofs.YtbdajagcinfeeaaDoor
/- THE CELL 'sum', in the pinned program and in every row, IS THE sha256 OF THE DUMP (.gsa) THAT YtbdajagcinfeeaaDoorProg.lean LOADS. Nothing in Lean hashes anything: it is a label: what it is worth is what the hold of that sum in a sandbox is worth. -/
noncomputable def Tryd.pinned : Pinned := { name := "ytbdajagcinfeeaadoor", sum := "170a087ac24a767be2aedf4e5291d76c6fba04e2d729179f91790e201046a8c2", checked := Tryd.checked }
namespace Rows
def none {H : Type} : Left H := { results := [], args := [] }

/- WHAT THE LISTED PACKAGE-LEVEL VARIABLES READ AS WHEN THE CALL BEGINS. Each datum BY PROGRAM (the guide's laid-datum.mjs) off the statement by which the dump's own 'gosem.cut.vars' lays the variable. In a bare row this is a premise. The card (YtbdajagcinfeeaaDoorCards.lean) ties it to the program's text. -/
def laid_moneyer_sha_k {H : Type} : DataW H := .agg [.lit (.int .u32 1116352408), .lit (.int .u32 1899447441), .lit (.int .u32 3049323471), .lit (.int .u32 3921009573), .lit (.int .u32 961987163), .lit (.int .u32 1508970993), .lit (.int .u32 2453635748), .lit (.int .u32 2870763221), .lit (.int .u32 3624381080), .lit (.int .u32 310598401), .lit (.int .u32 607225278), .lit (.int .u32 1426881987), .lit (.int .u32 1925078388), .lit (.int .u32 2162078206), .lit (.int .u32 2614888103), .lit (.int .u32 3248222580), .lit (.int .u32 3835390401), .lit (.int .u32 4022224774), .lit (.int .u32 264347078), .lit (.int .u32 604807628), .lit (.int .u32 770255983), .lit (.int .u32 1249150122), .lit (.int .u32 1555081692), .lit (.int .u32 1996064986), .lit (.int .u32 2554220882), .lit (.int .u32 2821834349), .lit (.int .u32 2952996808), .lit (.int .u32 3210313671), .lit (.int .u32 3336571891), .lit (.int .u32 3584528711), .lit (.int .u32 113926993), .lit (.int .u32 338241895), .lit (.int .u32 666307205), .lit (.int .u32 773529912), .lit (.int .u32 1294757372), .lit (.int .u32 1396182291), .lit (.int .u32 1695183700), .lit (.int .u32 1986661051), .lit (.int .u32 2177026350), .lit (.int .u32 2456956037), .lit (.int .u32 2730485921), .lit (.int .u32 2820302411), .lit (.int .u32 3259730800), .lit (.int .u32 3345764771), .lit (.int .u32 3516065817), .lit (.int .u32 3600352804), .lit (.int .u32 4094571909), .lit (.int .u32 275423344), .lit (.int .u32 430227734), .lit (.int .u32 506948616), .lit (.int .u32 659060556), .lit (.int .u32 883997877), .lit (.int .u32 958139571), .lit (.int .u32 1322822218), .lit (.int .u32 1537002063), .lit (.int .u32 1747873779), .lit (.int .u32 1955562222), .lit (.int .u32 2024104815), .lit (.int .u32 2227730452), .lit (.int .u32 2361852424), .lit (.int .u32 2428436474), .lit (.int .u32 2756734187), .lit (.int .u32 3204031479), .lit (.int .u32 3329325298)]

/-- 'moneyerlaw09.MerkleOne': WHATEVER THE INPUT: true; the input reads as it did. -/
def merkleOneSpec : ChangeSpec := { name := "merkleOne", fn := fun _ => fun
  | [d1, d2, d3] => { results := [.lit (.bool true)], args := [d1, d2, d3] }
  | _ => none }
def merkleOneRow : OpenClaim := { program := "ytbdajagcinfeeaadoor", sum := "170a087ac24a767be2aedf4e5291d76c6fba04e2d729179f91790e201046a8c2", func := "moneyer/moneyerlaw09.MerkleOne", spec := "merkleOne", named := ["moneyer/sha.k"], apart := false, laid := [("moneyer/sha.k", laid_moneyer_sha_k)] }
def MerkleOneSaid : Prop := merkleOneRow.holds Tryd.pinned (OpenSpec.ofChange merkleOneSpec)

/-- ITS FALSE NEIGHBOUR: 'it returns false'. Refute it at one input. -/
def merkleOneWrong : ChangeSpec := { name := "merkleOne", fn := fun _ => fun
  | [d1, d2, d3] => { results := [.lit (.bool false)], args := [d1, d2, d3] }
  | _ => none }
def MerkleOneWrongFalsely : Prop := merkleOneRow.holds Tryd.pinned (OpenSpec.ofChange merkleOneWrong)

/-- 'moneyerlaw09.MerkleFresh': WHATEVER THE INPUT: true; the input reads as it did. -/
def merkleFreshSpec : ChangeSpec := { name := "merkleFresh", fn := fun _ => fun
  | [d1, d2] => { results := [.lit (.bool true)], args := [d1, d2] }
  | _ => none }
def merkleFreshRow : OpenClaim := { program := "ytbdajagcinfeeaadoor", sum := "170a087ac24a767be2aedf4e5291d76c6fba04e2d729179f91790e201046a8c2", func := "moneyer/moneyerlaw09.MerkleFresh", spec := "merkleFresh", named := ["moneyer/sha.k"], apart := false, laid := [("moneyer/sha.k", laid_moneyer_sha_k)] }
def MerkleFreshSaid : Prop := merkleFreshRow.holds Tryd.pinned (OpenSpec.ofChange merkleFreshSpec)

/-- ITS FALSE NEIGHBOUR: 'it returns false'. Refute it at one input. -/
def merkleFreshWrong : ChangeSpec := { name := "merkleFresh", fn := fun _ => fun
  | [d1, d2] => { results := [.lit (.bool false)], args := [d1, d2] }
  | _ => none }
def MerkleFreshWrongFalsely : Prop := merkleFreshRow.holds Tryd.pinned (OpenSpec.ofChange merkleFreshWrong)

/-- 'moneyerlaw09.MerkleTells': WHATEVER THE INPUT: true; the input reads as it did. -/
def merkleTellsSpec : ChangeSpec := { name := "merkleTells", fn := fun _ => fun
  | [d1, d2, d3, d4, d5] => { results := [.lit (.bool true)], args := [d1, d2, d3, d4, d5] }
  | _ => none }
def merkleTellsRow : OpenClaim := { program := "ytbdajagcinfeeaadoor", sum := "170a087ac24a767be2aedf4e5291d76c6fba04e2d729179f91790e201046a8c2", func := "moneyer/moneyerlaw09.MerkleTells", spec := "merkleTells", named := ["moneyer/sha.k"], apart := false, laid := [("moneyer/sha.k", laid_moneyer_sha_k)] }
def MerkleTellsSaid : Prop := merkleTellsRow.holds Tryd.pinned (OpenSpec.ofChange merkleTellsSpec)

/-- ITS FALSE NEIGHBOUR: 'it returns false'. Refute it at one input. -/
def merkleTellsWrong : ChangeSpec := { name := "merkleTells", fn := fun _ => fun
  | [d1, d2, d3, d4, d5] => { results := [.lit (.bool false)], args := [d1, d2, d3, d4, d5] }
  | _ => none }
def MerkleTellsWrongFalsely : Prop := merkleTellsRow.holds Tryd.pinned (OpenSpec.ofChange merkleTellsWrong)

/-- 'moneyerlaw09.MerkleWays': WHATEVER THE INPUT: true; the input reads as it did. -/
def merkleWaysSpec : ChangeSpec := { name := "merkleWays", fn := fun _ => fun
  | [d1, d2] => { results := [.lit (.bool true)], args := [d1, d2] }
  | _ => none }
def merkleWaysRow : OpenClaim := { program := "ytbdajagcinfeeaadoor", sum := "170a087ac24a767be2aedf4e5291d76c6fba04e2d729179f91790e201046a8c2", func := "moneyer/moneyerlaw09.MerkleWays", spec := "merkleWays", named := ["moneyer/sha.k"], apart := false, laid := [("moneyer/sha.k", laid_moneyer_sha_k)] }
def MerkleWaysSaid : Prop := merkleWaysRow.holds Tryd.pinned (OpenSpec.ofChange merkleWaysSpec)

/-- ITS FALSE NEIGHBOUR: 'it returns false'. Refute it at one input. -/
def merkleWaysWrong : ChangeSpec := { name := "merkleWays", fn := fun _ => fun
  | [d1, d2] => { results := [.lit (.bool false)], args := [d1, d2] }
  | _ => none }
def MerkleWaysWrongFalsely : Prop := merkleWaysRow.holds Tryd.pinned (OpenSpec.ofChange merkleWaysWrong)

/-- 'moneyerlaw08.HeadPuts': WHATEVER THE INPUT: true; the input reads as it did. -/
def headPutsSpec : ChangeSpec := { name := "headPuts", fn := fun _ => fun
  | [d] => { results := [.lit (.bool true)], args := [d] }
  | _ => none }
def headPutsRow : OpenClaim := { program := "ytbdajagcinfeeaadoor", sum := "170a087ac24a767be2aedf4e5291d76c6fba04e2d729179f91790e201046a8c2", func := "moneyer/moneyerlaw08.HeadPuts", spec := "headPuts", inPlace := ["math/bits.Sub64"], unfollowed := true, recurses := true, named := ["moneyer/sha.k"], apart := false, laid := [("moneyer/sha.k", laid_moneyer_sha_k)] }
def HeadPutsSaid : Prop := headPutsRow.holds Tryd.pinned (OpenSpec.ofChange headPutsSpec)

/-- ITS FALSE NEIGHBOUR: 'it returns false'. Refute it at one input. -/
def headPutsWrong : ChangeSpec := { name := "headPuts", fn := fun _ => fun
  | [d] => { results := [.lit (.bool false)], args := [d] }
  | _ => none }
def HeadPutsWrongFalsely : Prop := headPutsRow.holds Tryd.pinned (OpenSpec.ofChange headPutsWrong)

/-- 'moneyerlaw08.HeadGets': WHATEVER THE INPUT: true; the input reads as it did. -/
def headGetsSpec : ChangeSpec := { name := "headGets", fn := fun _ => fun
  | [d1, d2] => { results := [.lit (.bool true)], args := [d1, d2] }
  | _ => none }
def headGetsRow : OpenClaim := { program := "ytbdajagcinfeeaadoor", sum := "170a087ac24a767be2aedf4e5291d76c6fba04e2d729179f91790e201046a8c2", func := "moneyer/moneyerlaw08.HeadGets", spec := "headGets", inPlace := ["math/bits.Sub64"], unfollowed := true, recurses := true, named := ["moneyer/sha.k"], apart := false, laid := [("moneyer/sha.k", laid_moneyer_sha_k)] }
def HeadGetsSaid : Prop := headGetsRow.holds Tryd.pinned (OpenSpec.ofChange headGetsSpec)

/-- ITS FALSE NEIGHBOUR: 'it returns false'. Refute it at one input. -/
def headGetsWrong : ChangeSpec := { name := "headGets", fn := fun _ => fun
  | [d1, d2] => { results := [.lit (.bool false)], args := [d1, d2] }
  | _ => none }
def HeadGetsWrongFalsely : Prop := headGetsRow.holds Tryd.pinned (OpenSpec.ofChange headGetsWrong)

/-- 'moneyerlaw08.HeadMines': WHATEVER THE INPUT: true; the input reads as it did. -/
def headMinesSpec : ChangeSpec := { name := "headMines", fn := fun _ => fun
  | [d1, d2] => { results := [.lit (.bool true)], args := [d1, d2] }
  | _ => none }
def headMinesRow : OpenClaim := { program := "ytbdajagcinfeeaadoor", sum := "170a087ac24a767be2aedf4e5291d76c6fba04e2d729179f91790e201046a8c2", func := "moneyer/moneyerlaw08.HeadMines", spec := "headMines", inPlace := ["math/bits.Sub64"], unfollowed := true, recurses := true, named := ["moneyer/sha.k"], apart := false, laid := [("moneyer/sha.k", laid_moneyer_sha_k)] }
def HeadMinesSaid : Prop := headMinesRow.holds Tryd.pinned (OpenSpec.ofChange headMinesSpec)

/-- ITS FALSE NEIGHBOUR: 'it returns false'. Refute it at one input. -/
def headMinesWrong : ChangeSpec := { name := "headMines", fn := fun _ => fun
  | [d1, d2] => { results := [.lit (.bool false)], args := [d1, d2] }
  | _ => none }
def HeadMinesWrongFalsely : Prop := headMinesRow.holds Tryd.pinned (OpenSpec.ofChange headMinesWrong)

/-- 'moneyerlaw08.HeadMined': WHATEVER THE INPUT: true; the input reads as it did. -/
def headMinedSpec : ChangeSpec := { name := "headMined", fn := fun _ => fun
  | [d1, d2] => { results := [.lit (.bool true)], args := [d1, d2] }
  | _ => none }
def headMinedRow : OpenClaim := { program := "ytbdajagcinfeeaadoor", sum := "170a087ac24a767be2aedf4e5291d76c6fba04e2d729179f91790e201046a8c2", func := "moneyer/moneyerlaw08.HeadMined", spec := "headMined", inPlace := ["math/bits.Sub64"], unfollowed := true, recurses := true, named := ["moneyer/sha.k"], apart := false, laid := [("moneyer/sha.k", laid_moneyer_sha_k)] }
def HeadMinedSaid : Prop := headMinedRow.holds Tryd.pinned (OpenSpec.ofChange headMinedSpec)

/-- ITS FALSE NEIGHBOUR: 'it returns false'. Refute it at one input. -/
def headMinedWrong : ChangeSpec := { name := "headMined", fn := fun _ => fun
  | [d1, d2] => { results := [.lit (.bool false)], args := [d1, d2] }
  | _ => none }
def HeadMinedWrongFalsely : Prop := headMinedRow.holds Tryd.pinned (OpenSpec.ofChange headMinedWrong)

/- THE SECOND FORM. 'bulk': how many values and letters a reading holds, each counted each time it is reached (what is shared counts as often as it is met; a slice's spare places count too). A statement '..UptoSaid' is the law's where the arguments, and the package variables that the reading takes, are together of bulk at most 1048576: NARROWER than '..Said'. Prove '..Said' where nothing that the law and all that it calls make is longer than what came in: it says more and counts as full. Else prove '..UptoSaid'. A law counts once. -/
mutual
def uptoBulk {H : Type} : DataW H → Nat
  | .lit (.string bytes) => bytes.length + 1
  | .lit _ => 1
  | .nil => 1
  | .ptr d => uptoBulk d + 1
  | .slice elems spare => uptoBulkAll elems + uptoBulkAll spare + 1
  | .agg parts => uptoBulkAll parts + 1
  | .iface _ d => uptoBulk d + 1
  | .map entries => uptoBulkEntries entries + 1
  | .held _ => 1
def uptoBulkAll {H : Type} : List (DataW H) → Nat
  | [] => 0
  | d :: r => uptoBulk d + uptoBulkAll r
def uptoBulkEntries {H : Type} : List (Lit × DataW H) → Nat
  | [] => 0
  | x :: r => uptoBulkEntry x + uptoBulkEntries r
def uptoBulkEntry {H : Type} : Lit × DataW H → Nat
  | (.string bytes, d) => bytes.length + uptoBulk d + 1
  | (_, d) => uptoBulk d + 1
 end
def uptoSmall : (H : Type) → List (DataW H) → Bool := fun _ ds => decide (uptoBulkAll ds ≤ 1048576)
def OpenSpec.upto (s : _root_.Go.ChangeSpec) : _root_.Go.OpenSpec := { _root_.Go.OpenSpec.ofChange s with cond := some uptoSmall }

/-- 'moneyerlaw09.MerkleOne', WHERE WHAT IT READS IS OF BULK AT MOST 1048576: true; the input reads as it did. -/
def merkleOneUptoRow : OpenClaim := { program := "ytbdajagcinfeeaadoor", sum := "170a087ac24a767be2aedf4e5291d76c6fba04e2d729179f91790e201046a8c2", func := "moneyer/moneyerlaw09.MerkleOne", spec := "merkleOne", named := ["moneyer/sha.k"], apart := false, laid := [("moneyer/sha.k", laid_moneyer_sha_k)], narrowed := true }
def MerkleOneUptoSaid : Prop := merkleOneUptoRow.holds Tryd.pinned (OpenSpec.upto merkleOneSpec)

/-- 'moneyerlaw09.MerkleFresh', WHERE WHAT IT READS IS OF BULK AT MOST 1048576: true; the input reads as it did. -/
def merkleFreshUptoRow : OpenClaim := { program := "ytbdajagcinfeeaadoor", sum := "170a087ac24a767be2aedf4e5291d76c6fba04e2d729179f91790e201046a8c2", func := "moneyer/moneyerlaw09.MerkleFresh", spec := "merkleFresh", named := ["moneyer/sha.k"], apart := false, laid := [("moneyer/sha.k", laid_moneyer_sha_k)], narrowed := true }
def MerkleFreshUptoSaid : Prop := merkleFreshUptoRow.holds Tryd.pinned (OpenSpec.upto merkleFreshSpec)

/-- 'moneyerlaw09.MerkleTells', WHERE WHAT IT READS IS OF BULK AT MOST 1048576: true; the input reads as it did. -/
def merkleTellsUptoRow : OpenClaim := { program := "ytbdajagcinfeeaadoor", sum := "170a087ac24a767be2aedf4e5291d76c6fba04e2d729179f91790e201046a8c2", func := "moneyer/moneyerlaw09.MerkleTells", spec := "merkleTells", named := ["moneyer/sha.k"], apart := false, laid := [("moneyer/sha.k", laid_moneyer_sha_k)], narrowed := true }
def MerkleTellsUptoSaid : Prop := merkleTellsUptoRow.holds Tryd.pinned (OpenSpec.upto merkleTellsSpec)

/-- 'moneyerlaw09.MerkleWays', WHERE WHAT IT READS IS OF BULK AT MOST 1048576: true; the input reads as it did. -/
def merkleWaysUptoRow : OpenClaim := { program := "ytbdajagcinfeeaadoor", sum := "170a087ac24a767be2aedf4e5291d76c6fba04e2d729179f91790e201046a8c2", func := "moneyer/moneyerlaw09.MerkleWays", spec := "merkleWays", named := ["moneyer/sha.k"], apart := false, laid := [("moneyer/sha.k", laid_moneyer_sha_k)], narrowed := true }
def MerkleWaysUptoSaid : Prop := merkleWaysUptoRow.holds Tryd.pinned (OpenSpec.upto merkleWaysSpec)

/-- 'moneyerlaw08.HeadPuts', WHERE WHAT IT READS IS OF BULK AT MOST 1048576: true; the input reads as it did. -/
def headPutsUptoRow : OpenClaim := { program := "ytbdajagcinfeeaadoor", sum := "170a087ac24a767be2aedf4e5291d76c6fba04e2d729179f91790e201046a8c2", func := "moneyer/moneyerlaw08.HeadPuts", spec := "headPuts", inPlace := ["math/bits.Sub64"], unfollowed := true, recurses := true, named := ["moneyer/sha.k"], apart := false, laid := [("moneyer/sha.k", laid_moneyer_sha_k)], narrowed := true }
def HeadPutsUptoSaid : Prop := headPutsUptoRow.holds Tryd.pinned (OpenSpec.upto headPutsSpec)

/-- 'moneyerlaw08.HeadGets', WHERE WHAT IT READS IS OF BULK AT MOST 1048576: true; the input reads as it did. -/
def headGetsUptoRow : OpenClaim := { program := "ytbdajagcinfeeaadoor", sum := "170a087ac24a767be2aedf4e5291d76c6fba04e2d729179f91790e201046a8c2", func := "moneyer/moneyerlaw08.HeadGets", spec := "headGets", inPlace := ["math/bits.Sub64"], unfollowed := true, recurses := true, named := ["moneyer/sha.k"], apart := false, laid := [("moneyer/sha.k", laid_moneyer_sha_k)], narrowed := true }
def HeadGetsUptoSaid : Prop := headGetsUptoRow.holds Tryd.pinned (OpenSpec.upto headGetsSpec)

/-- 'moneyerlaw08.HeadMines', WHERE WHAT IT READS IS OF BULK AT MOST 1048576: true; the input reads as it did. -/
def headMinesUptoRow : OpenClaim := { program := "ytbdajagcinfeeaadoor", sum := "170a087ac24a767be2aedf4e5291d76c6fba04e2d729179f91790e201046a8c2", func := "moneyer/moneyerlaw08.HeadMines", spec := "headMines", inPlace := ["math/bits.Sub64"], unfollowed := true, recurses := true, named := ["moneyer/sha.k"], apart := false, laid := [("moneyer/sha.k", laid_moneyer_sha_k)], narrowed := true }
def HeadMinesUptoSaid : Prop := headMinesUptoRow.holds Tryd.pinned (OpenSpec.upto headMinesSpec)

/-- 'moneyerlaw08.HeadMined', WHERE WHAT IT READS IS OF BULK AT MOST 1048576: true; the input reads as it did. -/
def headMinedUptoRow : OpenClaim := { program := "ytbdajagcinfeeaadoor", sum := "170a087ac24a767be2aedf4e5291d76c6fba04e2d729179f91790e201046a8c2", func := "moneyer/moneyerlaw08.HeadMined", spec := "headMined", inPlace := ["math/bits.Sub64"], unfollowed := true, recurses := true, named := ["moneyer/sha.k"], apart := false, laid := [("moneyer/sha.k", laid_moneyer_sha_k)], narrowed := true }
def HeadMinedUptoSaid : Prop := headMinedUptoRow.holds Tryd.pinned (OpenSpec.upto headMinedSpec)

end Rows
end Go.Proofs.YtbdajagcinfeeaaDoor
