/-
  NARROWER THAN 'FOR EVERY INPUT', by the rows' own cells (each row's printed sentence says how): ShaRounds: laid · ShaSteps: laid · ShaPads: laid · ShaFresh: laid · ShaTells: laid · LampMakes: laid · LampBack: laid · LampSpoilt: laid · LampChecks: laid · LampOnce: laid.
  DERIVED. THE GIVEN ROWS OF THIS SEAT. 10 by the template 'for every input the law returns true; each argument reads behind the call as it read before'; 0 by the template 'total and deterministic' (their statements: YtkjillpcmffgoaaDoorTotals.lean).
  GIVEN WITH THE SEED: the statements are not yours to turn. If you find one false, say at which input.
  Laid BY PROGRAM, IN A SANDBOX (cutbox-rows.mjs): the forced cells as the released guide's own fill.sh prints them over the translation ca81b6f5572481ee… (all of the seat's roots in one cut). By AI agents, Wed Nov 11 2026. No macro, syntax, notation, axiom, sorry.
-/
import Derived.Test.YtkjillpcmffgoaaDoorChecked
import GoSem.Claim
import GoSem.ClaimJoined
import GoSem.ClaimMapViews
import Derived.JoinedTies
import Derived.KernelRfl
namespace Go.Proofs.YtkjillpcmffgoaaDoor
/- THE CELL 'sum', in the pinned program and in every row, IS THE sha256 OF THE DUMP (.gsa) THAT YtkjillpcmffgoaaDoorProg.lean LOADS. Nothing in Lean hashes anything: it is a label: what it is worth is what the hold of that sum in a sandbox is worth. -/
noncomputable def Tryd.pinned : Pinned := { name := "ytkjillpcmffgoaadoor", sum := "ca81b6f5572481eed00b44662592b2462bfa6d72e77c0ec56415e0705e254713", checked := Tryd.checked }
namespace Rows
def none {H : Type} : Left H := { results := [], args := [] }

/- WHAT THE LISTED PACKAGE-LEVEL VARIABLES READ AS WHEN THE CALL BEGINS. Each datum BY PROGRAM (the guide's laid-datum.mjs) off the statement by which the dump's own 'gosem.cut.vars' lays the variable. In a bare row this is a premise. The card (YtkjillpcmffgoaaDoorCards.lean) ties it to the program's text. -/
def laid_moneyer_sha_k {H : Type} : DataW H := .agg [.lit (.int .u32 1116352408), .lit (.int .u32 1899447441), .lit (.int .u32 3049323471), .lit (.int .u32 3921009573), .lit (.int .u32 961987163), .lit (.int .u32 1508970993), .lit (.int .u32 2453635748), .lit (.int .u32 2870763221), .lit (.int .u32 3624381080), .lit (.int .u32 310598401), .lit (.int .u32 607225278), .lit (.int .u32 1426881987), .lit (.int .u32 1925078388), .lit (.int .u32 2162078206), .lit (.int .u32 2614888103), .lit (.int .u32 3248222580), .lit (.int .u32 3835390401), .lit (.int .u32 4022224774), .lit (.int .u32 264347078), .lit (.int .u32 604807628), .lit (.int .u32 770255983), .lit (.int .u32 1249150122), .lit (.int .u32 1555081692), .lit (.int .u32 1996064986), .lit (.int .u32 2554220882), .lit (.int .u32 2821834349), .lit (.int .u32 2952996808), .lit (.int .u32 3210313671), .lit (.int .u32 3336571891), .lit (.int .u32 3584528711), .lit (.int .u32 113926993), .lit (.int .u32 338241895), .lit (.int .u32 666307205), .lit (.int .u32 773529912), .lit (.int .u32 1294757372), .lit (.int .u32 1396182291), .lit (.int .u32 1695183700), .lit (.int .u32 1986661051), .lit (.int .u32 2177026350), .lit (.int .u32 2456956037), .lit (.int .u32 2730485921), .lit (.int .u32 2820302411), .lit (.int .u32 3259730800), .lit (.int .u32 3345764771), .lit (.int .u32 3516065817), .lit (.int .u32 3600352804), .lit (.int .u32 4094571909), .lit (.int .u32 275423344), .lit (.int .u32 430227734), .lit (.int .u32 506948616), .lit (.int .u32 659060556), .lit (.int .u32 883997877), .lit (.int .u32 958139571), .lit (.int .u32 1322822218), .lit (.int .u32 1537002063), .lit (.int .u32 1747873779), .lit (.int .u32 1955562222), .lit (.int .u32 2024104815), .lit (.int .u32 2227730452), .lit (.int .u32 2361852424), .lit (.int .u32 2428436474), .lit (.int .u32 2756734187), .lit (.int .u32 3204031479), .lit (.int .u32 3329325298)]

/-- 'moneyerlaw02.ShaRounds': WHATEVER THE INPUT: true; the input reads as it did. -/
def shaRoundsSpec : ChangeSpec := { name := "shaRounds", fn := fun _ => fun
  | [d1, d2] => { results := [.lit (.bool true)], args := [d1, d2] }
  | _ => none }
def shaRoundsRow : OpenClaim := { program := "ytkjillpcmffgoaadoor", sum := "ca81b6f5572481eed00b44662592b2462bfa6d72e77c0ec56415e0705e254713", func := "moneyer/moneyerlaw02.ShaRounds", spec := "shaRounds", named := ["moneyer/sha.k"], apart := false, laid := [("moneyer/sha.k", laid_moneyer_sha_k)] }
def ShaRoundsSaid : Prop := shaRoundsRow.holds Tryd.pinned (OpenSpec.ofChange shaRoundsSpec)

/-- ITS FALSE NEIGHBOUR: 'it returns false'. Refute it at one input. -/
def shaRoundsWrong : ChangeSpec := { name := "shaRounds", fn := fun _ => fun
  | [d1, d2] => { results := [.lit (.bool false)], args := [d1, d2] }
  | _ => none }
def ShaRoundsWrongFalsely : Prop := shaRoundsRow.holds Tryd.pinned (OpenSpec.ofChange shaRoundsWrong)

/-- 'moneyerlaw02.ShaSteps': WHATEVER THE INPUT: true; the input reads as it did. -/
def shaStepsSpec : ChangeSpec := { name := "shaSteps", fn := fun _ => fun
  | [d] => { results := [.lit (.bool true)], args := [d] }
  | _ => none }
def shaStepsRow : OpenClaim := { program := "ytkjillpcmffgoaadoor", sum := "ca81b6f5572481eed00b44662592b2462bfa6d72e77c0ec56415e0705e254713", func := "moneyer/moneyerlaw02.ShaSteps", spec := "shaSteps", named := ["moneyer/sha.k"], apart := false, laid := [("moneyer/sha.k", laid_moneyer_sha_k)] }
def ShaStepsSaid : Prop := shaStepsRow.holds Tryd.pinned (OpenSpec.ofChange shaStepsSpec)

/-- ITS FALSE NEIGHBOUR: 'it returns false'. Refute it at one input. -/
def shaStepsWrong : ChangeSpec := { name := "shaSteps", fn := fun _ => fun
  | [d] => { results := [.lit (.bool false)], args := [d] }
  | _ => none }
def ShaStepsWrongFalsely : Prop := shaStepsRow.holds Tryd.pinned (OpenSpec.ofChange shaStepsWrong)

/-- 'moneyerlaw02.ShaPads': WHATEVER THE INPUT: true; the input reads as it did. -/
def shaPadsSpec : ChangeSpec := { name := "shaPads", fn := fun _ => fun
  | [d1, d2] => { results := [.lit (.bool true)], args := [d1, d2] }
  | _ => none }
def shaPadsRow : OpenClaim := { program := "ytkjillpcmffgoaadoor", sum := "ca81b6f5572481eed00b44662592b2462bfa6d72e77c0ec56415e0705e254713", func := "moneyer/moneyerlaw02.ShaPads", spec := "shaPads", named := ["moneyer/sha.k"], apart := false, laid := [("moneyer/sha.k", laid_moneyer_sha_k)] }
def ShaPadsSaid : Prop := shaPadsRow.holds Tryd.pinned (OpenSpec.ofChange shaPadsSpec)

/-- ITS FALSE NEIGHBOUR: 'it returns false'. Refute it at one input. -/
def shaPadsWrong : ChangeSpec := { name := "shaPads", fn := fun _ => fun
  | [d1, d2] => { results := [.lit (.bool false)], args := [d1, d2] }
  | _ => none }
def ShaPadsWrongFalsely : Prop := shaPadsRow.holds Tryd.pinned (OpenSpec.ofChange shaPadsWrong)

/-- 'moneyerlaw02.ShaFresh': WHATEVER THE INPUT: true; the input reads as it did. -/
def shaFreshSpec : ChangeSpec := { name := "shaFresh", fn := fun _ => fun
  | [d] => { results := [.lit (.bool true)], args := [d] }
  | _ => none }
def shaFreshRow : OpenClaim := { program := "ytkjillpcmffgoaadoor", sum := "ca81b6f5572481eed00b44662592b2462bfa6d72e77c0ec56415e0705e254713", func := "moneyer/moneyerlaw02.ShaFresh", spec := "shaFresh", named := ["moneyer/sha.k"], apart := false, laid := [("moneyer/sha.k", laid_moneyer_sha_k)] }
def ShaFreshSaid : Prop := shaFreshRow.holds Tryd.pinned (OpenSpec.ofChange shaFreshSpec)

/-- ITS FALSE NEIGHBOUR: 'it returns false'. Refute it at one input. -/
def shaFreshWrong : ChangeSpec := { name := "shaFresh", fn := fun _ => fun
  | [d] => { results := [.lit (.bool false)], args := [d] }
  | _ => none }
def ShaFreshWrongFalsely : Prop := shaFreshRow.holds Tryd.pinned (OpenSpec.ofChange shaFreshWrong)

/-- 'moneyerlaw02.ShaTells': WHATEVER THE INPUT: true; the input reads as it did. -/
def shaTellsSpec : ChangeSpec := { name := "shaTells", fn := fun _ => fun
  | [d1, d2, d3] => { results := [.lit (.bool true)], args := [d1, d2, d3] }
  | _ => none }
def shaTellsRow : OpenClaim := { program := "ytkjillpcmffgoaadoor", sum := "ca81b6f5572481eed00b44662592b2462bfa6d72e77c0ec56415e0705e254713", func := "moneyer/moneyerlaw02.ShaTells", spec := "shaTells", named := ["moneyer/sha.k"], apart := false, laid := [("moneyer/sha.k", laid_moneyer_sha_k)] }
def ShaTellsSaid : Prop := shaTellsRow.holds Tryd.pinned (OpenSpec.ofChange shaTellsSpec)

/-- ITS FALSE NEIGHBOUR: 'it returns false'. Refute it at one input. -/
def shaTellsWrong : ChangeSpec := { name := "shaTells", fn := fun _ => fun
  | [d1, d2, d3] => { results := [.lit (.bool false)], args := [d1, d2, d3] }
  | _ => none }
def ShaTellsWrongFalsely : Prop := shaTellsRow.holds Tryd.pinned (OpenSpec.ofChange shaTellsWrong)

/-- 'moneyerlaw13.LampMakes': WHATEVER THE INPUT: true; the input reads as it did. -/
def lampMakesSpec : ChangeSpec := { name := "lampMakes", fn := fun _ => fun
  | [d1, d2, d3, d4] => { results := [.lit (.bool true)], args := [d1, d2, d3, d4] }
  | _ => none }
def lampMakesRow : OpenClaim := { program := "ytkjillpcmffgoaadoor", sum := "ca81b6f5572481eed00b44662592b2462bfa6d72e77c0ec56415e0705e254713", func := "moneyer/moneyerlaw13.LampMakes", spec := "lampMakes", unfollowed := true, recurses := true, named := ["moneyer/sha.k"], apart := false, laid := [("moneyer/sha.k", laid_moneyer_sha_k)] }
def LampMakesSaid : Prop := lampMakesRow.holds Tryd.pinned (OpenSpec.ofChange lampMakesSpec)

/-- ITS FALSE NEIGHBOUR: 'it returns false'. Refute it at one input. -/
def lampMakesWrong : ChangeSpec := { name := "lampMakes", fn := fun _ => fun
  | [d1, d2, d3, d4] => { results := [.lit (.bool false)], args := [d1, d2, d3, d4] }
  | _ => none }
def LampMakesWrongFalsely : Prop := lampMakesRow.holds Tryd.pinned (OpenSpec.ofChange lampMakesWrong)

/-- 'moneyerlaw13.LampBack': WHATEVER THE INPUT: true; the input reads as it did. -/
def lampBackSpec : ChangeSpec := { name := "lampBack", fn := fun _ => fun
  | [d1, d2, d3] => { results := [.lit (.bool true)], args := [d1, d2, d3] }
  | _ => none }
def lampBackRow : OpenClaim := { program := "ytkjillpcmffgoaadoor", sum := "ca81b6f5572481eed00b44662592b2462bfa6d72e77c0ec56415e0705e254713", func := "moneyer/moneyerlaw13.LampBack", spec := "lampBack", unfollowed := true, recurses := true, named := ["moneyer/sha.k"], apart := false, laid := [("moneyer/sha.k", laid_moneyer_sha_k)] }
def LampBackSaid : Prop := lampBackRow.holds Tryd.pinned (OpenSpec.ofChange lampBackSpec)

/-- ITS FALSE NEIGHBOUR: 'it returns false'. Refute it at one input. -/
def lampBackWrong : ChangeSpec := { name := "lampBack", fn := fun _ => fun
  | [d1, d2, d3] => { results := [.lit (.bool false)], args := [d1, d2, d3] }
  | _ => none }
def LampBackWrongFalsely : Prop := lampBackRow.holds Tryd.pinned (OpenSpec.ofChange lampBackWrong)

/-- 'moneyerlaw13.LampSpoilt': WHATEVER THE INPUT: true; the input reads as it did. -/
def lampSpoiltSpec : ChangeSpec := { name := "lampSpoilt", fn := fun _ => fun
  | [d1, d2, d3, d4] => { results := [.lit (.bool true)], args := [d1, d2, d3, d4] }
  | _ => none }
def lampSpoiltRow : OpenClaim := { program := "ytkjillpcmffgoaadoor", sum := "ca81b6f5572481eed00b44662592b2462bfa6d72e77c0ec56415e0705e254713", func := "moneyer/moneyerlaw13.LampSpoilt", spec := "lampSpoilt", unfollowed := true, recurses := true, named := ["moneyer/sha.k"], apart := false, laid := [("moneyer/sha.k", laid_moneyer_sha_k)] }
def LampSpoiltSaid : Prop := lampSpoiltRow.holds Tryd.pinned (OpenSpec.ofChange lampSpoiltSpec)

/-- ITS FALSE NEIGHBOUR: 'it returns false'. Refute it at one input. -/
def lampSpoiltWrong : ChangeSpec := { name := "lampSpoilt", fn := fun _ => fun
  | [d1, d2, d3, d4] => { results := [.lit (.bool false)], args := [d1, d2, d3, d4] }
  | _ => none }
def LampSpoiltWrongFalsely : Prop := lampSpoiltRow.holds Tryd.pinned (OpenSpec.ofChange lampSpoiltWrong)

/-- 'moneyerlaw13.LampChecks': WHATEVER THE INPUT: true; the input reads as it did. -/
def lampChecksSpec : ChangeSpec := { name := "lampChecks", fn := fun _ => fun
  | [d1, d2, d3] => { results := [.lit (.bool true)], args := [d1, d2, d3] }
  | _ => none }
def lampChecksRow : OpenClaim := { program := "ytkjillpcmffgoaadoor", sum := "ca81b6f5572481eed00b44662592b2462bfa6d72e77c0ec56415e0705e254713", func := "moneyer/moneyerlaw13.LampChecks", spec := "lampChecks", unfollowed := true, recurses := true, named := ["moneyer/sha.k"], apart := false, laid := [("moneyer/sha.k", laid_moneyer_sha_k)] }
def LampChecksSaid : Prop := lampChecksRow.holds Tryd.pinned (OpenSpec.ofChange lampChecksSpec)

/-- ITS FALSE NEIGHBOUR: 'it returns false'. Refute it at one input. -/
def lampChecksWrong : ChangeSpec := { name := "lampChecks", fn := fun _ => fun
  | [d1, d2, d3] => { results := [.lit (.bool false)], args := [d1, d2, d3] }
  | _ => none }
def LampChecksWrongFalsely : Prop := lampChecksRow.holds Tryd.pinned (OpenSpec.ofChange lampChecksWrong)

/-- 'moneyerlaw13.LampOnce': WHATEVER THE INPUT: true; the input reads as it did. -/
def lampOnceSpec : ChangeSpec := { name := "lampOnce", fn := fun _ => fun
  | [d1, d2, d3, d4, d5, d6] => { results := [.lit (.bool true)], args := [d1, d2, d3, d4, d5, d6] }
  | _ => none }
def lampOnceRow : OpenClaim := { program := "ytkjillpcmffgoaadoor", sum := "ca81b6f5572481eed00b44662592b2462bfa6d72e77c0ec56415e0705e254713", func := "moneyer/moneyerlaw13.LampOnce", spec := "lampOnce", unfollowed := true, recurses := true, named := ["moneyer/sha.k"], apart := false, laid := [("moneyer/sha.k", laid_moneyer_sha_k)] }
def LampOnceSaid : Prop := lampOnceRow.holds Tryd.pinned (OpenSpec.ofChange lampOnceSpec)

/-- ITS FALSE NEIGHBOUR: 'it returns false'. Refute it at one input. -/
def lampOnceWrong : ChangeSpec := { name := "lampOnce", fn := fun _ => fun
  | [d1, d2, d3, d4, d5, d6] => { results := [.lit (.bool false)], args := [d1, d2, d3, d4, d5, d6] }
  | _ => none }
def LampOnceWrongFalsely : Prop := lampOnceRow.holds Tryd.pinned (OpenSpec.ofChange lampOnceWrong)

/- THE SECOND FORM. 'bulk': how many values and letters a reading holds, each counted each time it is reached (what is shared counts as often as it is met; a slice's spare places count too). A statement '..UptoSaid' is the law's where the arguments, and the package variables that the reading takes, are together of bulk at most 1048576: NARROWER than '..Said'. Prove '..Said' where nothing that the law and all that it calls make is longer than what came in: it says more and counts as full. Else prove '..UptoSaid'. A law counts once. -/
mutual
def uptoBulk {H : Type} : DataW H → Nat
  | .lit (.string bytes) => bytes.length + 1
  | .lit _ => 1
  | .nil => 1
  | .ptr d => uptoBulk d + 1
  | .slice elems spare => uptoBulkAll elems + uptoBulkAll spare + 1
  | .agg parts => uptoBulkAll parts + 1
  | .iface _ d => uptoBulk d + 1
  | .map entries => uptoBulkEntries entries + 1
  | .held _ => 1
def uptoBulkAll {H : Type} : List (DataW H) → Nat
  | [] => 0
  | d :: r => uptoBulk d + uptoBulkAll r
def uptoBulkEntries {H : Type} : List (Lit × DataW H) → Nat
  | [] => 0
  | x :: r => uptoBulkEntry x + uptoBulkEntries r
def uptoBulkEntry {H : Type} : Lit × DataW H → Nat
  | (.string bytes, d) => bytes.length + uptoBulk d + 1
  | (_, d) => uptoBulk d + 1
 end
def uptoSmall : (H : Type) → List (DataW H) → Bool := fun _ ds => decide (uptoBulkAll ds ≤ 1048576)
def OpenSpec.upto (s : _root_.Go.ChangeSpec) : _root_.Go.OpenSpec := { _root_.Go.OpenSpec.ofChange s with cond := some uptoSmall }

/-- 'moneyerlaw02.ShaRounds', WHERE WHAT IT READS IS OF BULK AT MOST 1048576: true; the input reads as it did. -/
def shaRoundsUptoRow : OpenClaim := { program := "ytkjillpcmffgoaadoor", sum := "ca81b6f5572481eed00b44662592b2462bfa6d72e77c0ec56415e0705e254713", func := "moneyer/moneyerlaw02.ShaRounds", spec := "shaRounds", named := ["moneyer/sha.k"], apart := false, laid := [("moneyer/sha.k", laid_moneyer_sha_k)], narrowed := true }
def ShaRoundsUptoSaid : Prop := shaRoundsUptoRow.holds Tryd.pinned (OpenSpec.upto shaRoundsSpec)

/-- 'moneyerlaw02.ShaSteps', WHERE WHAT IT READS IS OF BULK AT MOST 1048576: true; the input reads as it did. -/
def shaStepsUptoRow : OpenClaim := { program := "ytkjillpcmffgoaadoor", sum := "ca81b6f5572481eed00b44662592b2462bfa6d72e77c0ec56415e0705e254713", func := "moneyer/moneyerlaw02.ShaSteps", spec := "shaSteps", named := ["moneyer/sha.k"], apart := false, laid := [("moneyer/sha.k", laid_moneyer_sha_k)], narrowed := true }
def ShaStepsUptoSaid : Prop := shaStepsUptoRow.holds Tryd.pinned (OpenSpec.upto shaStepsSpec)

/-- 'moneyerlaw02.ShaPads', WHERE WHAT IT READS IS OF BULK AT MOST 1048576: true; the input reads as it did. -/
def shaPadsUptoRow : OpenClaim := { program := "ytkjillpcmffgoaadoor", sum := "ca81b6f5572481eed00b44662592b2462bfa6d72e77c0ec56415e0705e254713", func := "moneyer/moneyerlaw02.ShaPads", spec := "shaPads", named := ["moneyer/sha.k"], apart := false, laid := [("moneyer/sha.k", laid_moneyer_sha_k)], narrowed := true }
def ShaPadsUptoSaid : Prop := shaPadsUptoRow.holds Tryd.pinned (OpenSpec.upto shaPadsSpec)

/-- 'moneyerlaw02.ShaFresh', WHERE WHAT IT READS IS OF BULK AT MOST 1048576: true; the input reads as it did. -/
def shaFreshUptoRow : OpenClaim := { program := "ytkjillpcmffgoaadoor", sum := "ca81b6f5572481eed00b44662592b2462bfa6d72e77c0ec56415e0705e254713", func := "moneyer/moneyerlaw02.ShaFresh", spec := "shaFresh", named := ["moneyer/sha.k"], apart := false, laid := [("moneyer/sha.k", laid_moneyer_sha_k)], narrowed := true }
def ShaFreshUptoSaid : Prop := shaFreshUptoRow.holds Tryd.pinned (OpenSpec.upto shaFreshSpec)

/-- 'moneyerlaw02.ShaTells', WHERE WHAT IT READS IS OF BULK AT MOST 1048576: true; the input reads as it did. -/
def shaTellsUptoRow : OpenClaim := { program := "ytkjillpcmffgoaadoor", sum := "ca81b6f5572481eed00b44662592b2462bfa6d72e77c0ec56415e0705e254713", func := "moneyer/moneyerlaw02.ShaTells", spec := "shaTells", named := ["moneyer/sha.k"], apart := false, laid := [("moneyer/sha.k", laid_moneyer_sha_k)], narrowed := true }
def ShaTellsUptoSaid : Prop := shaTellsUptoRow.holds Tryd.pinned (OpenSpec.upto shaTellsSpec)

/-- 'moneyerlaw13.LampMakes', WHERE WHAT IT READS IS OF BULK AT MOST 1048576: true; the input reads as it did. -/
def lampMakesUptoRow : OpenClaim := { program := "ytkjillpcmffgoaadoor", sum := "ca81b6f5572481eed00b44662592b2462bfa6d72e77c0ec56415e0705e254713", func := "moneyer/moneyerlaw13.LampMakes", spec := "lampMakes", unfollowed := true, recurses := true, named := ["moneyer/sha.k"], apart := false, laid := [("moneyer/sha.k", laid_moneyer_sha_k)], narrowed := true }
def LampMakesUptoSaid : Prop := lampMakesUptoRow.holds Tryd.pinned (OpenSpec.upto lampMakesSpec)

/-- 'moneyerlaw13.LampBack', WHERE WHAT IT READS IS OF BULK AT MOST 1048576: true; the input reads as it did. -/
def lampBackUptoRow : OpenClaim := { program := "ytkjillpcmffgoaadoor", sum := "ca81b6f5572481eed00b44662592b2462bfa6d72e77c0ec56415e0705e254713", func := "moneyer/moneyerlaw13.LampBack", spec := "lampBack", unfollowed := true, recurses := true, named := ["moneyer/sha.k"], apart := false, laid := [("moneyer/sha.k", laid_moneyer_sha_k)], narrowed := true }
def LampBackUptoSaid : Prop := lampBackUptoRow.holds Tryd.pinned (OpenSpec.upto lampBackSpec)

/-- 'moneyerlaw13.LampSpoilt', WHERE WHAT IT READS IS OF BULK AT MOST 1048576: true; the input reads as it did. -/
def lampSpoiltUptoRow : OpenClaim := { program := "ytkjillpcmffgoaadoor", sum := "ca81b6f5572481eed00b44662592b2462bfa6d72e77c0ec56415e0705e254713", func := "moneyer/moneyerlaw13.LampSpoilt", spec := "lampSpoilt", unfollowed := true, recurses := true, named := ["moneyer/sha.k"], apart := false, laid := [("moneyer/sha.k", laid_moneyer_sha_k)], narrowed := true }
def LampSpoiltUptoSaid : Prop := lampSpoiltUptoRow.holds Tryd.pinned (OpenSpec.upto lampSpoiltSpec)

/-- 'moneyerlaw13.LampChecks', WHERE WHAT IT READS IS OF BULK AT MOST 1048576: true; the input reads as it did. -/
def lampChecksUptoRow : OpenClaim := { program := "ytkjillpcmffgoaadoor", sum := "ca81b6f5572481eed00b44662592b2462bfa6d72e77c0ec56415e0705e254713", func := "moneyer/moneyerlaw13.LampChecks", spec := "lampChecks", unfollowed := true, recurses := true, named := ["moneyer/sha.k"], apart := false, laid := [("moneyer/sha.k", laid_moneyer_sha_k)], narrowed := true }
def LampChecksUptoSaid : Prop := lampChecksUptoRow.holds Tryd.pinned (OpenSpec.upto lampChecksSpec)

/-- 'moneyerlaw13.LampOnce', WHERE WHAT IT READS IS OF BULK AT MOST 1048576: true; the input reads as it did. -/
def lampOnceUptoRow : OpenClaim := { program := "ytkjillpcmffgoaadoor", sum := "ca81b6f5572481eed00b44662592b2462bfa6d72e77c0ec56415e0705e254713", func := "moneyer/moneyerlaw13.LampOnce", spec := "lampOnce", unfollowed := true, recurses := true, named := ["moneyer/sha.k"], apart := false, laid := [("moneyer/sha.k", laid_moneyer_sha_k)], narrowed := true }
def LampOnceUptoSaid : Prop := lampOnceUptoRow.holds Tryd.pinned (OpenSpec.upto lampOnceSpec)

end Rows
end Go.Proofs.YtkjillpcmffgoaaDoor
