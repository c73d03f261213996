/- The statement of BigMoves: for every input the law returns true, and each argument reads behind the call as it read before. No condition. -/
import Derived.KernelRfl
import Derived.Test.YtepcjobghbanmaaProg
import Derived.Test.YtepcjobghbanmaaRows
import Derived.WalkKit
import Derived.ProofKit
import Derived.Handy
import Derived.Lay
import Derived.SizedLaws
import Derived.SevenTiedAt
import Derived.Test.YtepcjobghbanmaaLd
import Derived.Test.YtepcjobghbanmaaFbig
import Derived.Test.YtepcjobghbanmaaFref03
import Derived.Test.YtepcjobghbanmaaFlaw03
import Derived.Test.YtepcjobghbanmaaSwords
import Derived.Test.YtepcjobghbanmaaSbigS
import Derived.Test.YtepcjobghbanmaaSbigB
import Derived.Test.YtepcjobghbanmaaScellS
import Derived.Test.YtepcjobghbanmaaLe
set_option linter.unusedVariables false
set_option linter.unusedSimpArgs false
set_option autoImplicit false
namespace Go.Proofs.Ytepcjobghbanmaa.M
open Go
noncomputable section
/-- moneyer/moneyerlaw03.BigMoves -/
def law03_BigMoves (a : Vector UInt64 4) (n : Int) : Option (Bool) :=
  if ((-(9223372036854775808 : Int)) ≤ n) ∧ (n < (9223372036854775808 : Int)) then
    bif eqb (decide ((Vector.toList (uW ((uV a) * ((2 : Nat) ^ (Int.toNat n))))) = (Vector.toList (uW ((uV a) * ((2 : Nat) ^ (Int.toNat n))))))) true then (bif eqb (bif true then (decide ((Vector.toList (uW ((uV a) / ((2 : Nat) ^ (Int.toNat n))))) = (Vector.toList (uW ((uV a) / ((2 : Nat) ^ (Int.toNat n))))))) else false) true then (some true)
        else (some false))
      else (some false)
  else none
theorem law03_BigMoves_q (a : Vector UInt64 4) (n : Int) : law03_BigMoves a n = (if ((-(9223372036854775808 : Int)) ≤ n) ∧ (n < (9223372036854775808 : Int)) then
    bif eqb (decide ((Vector.toList (uW ((uV a) * ((2 : Nat) ^ (Int.toNat n))))) = (Vector.toList (uW ((uV a) * ((2 : Nat) ^ (Int.toNat n))))))) true then (bif eqb (bif true then (decide ((Vector.toList (uW ((uV a) / ((2 : Nat) ^ (Int.toNat n))))) = (Vector.toList (uW ((uV a) / ((2 : Nat) ^ (Int.toNat n))))))) else false) true then (some true)
        else (some false))
      else (some false)
  else none) := by kernel_rfl
theorem law03_BigMoves_spec (a : Vector UInt64 4) (n : Int) (h : -9223372036854775808 ≤ n ∧ n < 9223372036854775808) : law03_BigMoves a n = some true := by
  unfold law03_BigMoves
  rw [if_pos (show (-(9223372036854775808 : Int)) ≤ n ∧ n < 9223372036854775808 from h)]
  simp [eqb]

end
end Go.Proofs.Ytepcjobghbanmaa.M

namespace Go.Proofs.Ytepcjobghbanmaa.M
open Go
noncomputable section
set_option maxRecDepth 100000
set_option maxHeartbeats 0
noncomputable def law03_BigMoves_T : Tbl := [(24, [], big_Left_c), (25, [], ref03_Left_c), (26, [], big_Right_c), (27, [], ref03_Right_c), (19, [], law03_lives_c)]
noncomputable def law03_BigMoves_C : CfgW := mkC Try.prog noG law03_BigMoves_T 24 0 false
def law03_BigMoves_lv : Nat → List Nat := fun i => []
noncomputable abbrev law03_BigMoves_b : Code := Try.f5.body.getD .skip
noncomputable abbrev law03_BigMoves_r : List ResultVar := Try.f5.results.toList
def law03_BigMoves_hs : List Nat := []

def law03_BigMoves_enc (r : Bool) : CallOut := ⟨.pv (.sc .b r), [], true, []⟩
theorem law03_BigMoves_e (a : Vector UInt64 4) (n : Int) (Q : CallOut → Prop) : evalFnP law03_BigMoves_C law03_BigMoves_lv law03_BigMoves_r law03_BigMoves_hs law03_BigMoves_b [.pv (.arr .u64 4 a), .pv (.sc .i n)] [] Q =
    ((((-(9223372036854775808 : Int)) ≤ n) ∧ (n < (9223372036854775808 : Int))) ∧ ((((-(9223372036854775808 : Int)) ≤ n) ∧ (n < (9223372036854775808 : Int))) ∧ (condP (eqb (decide ((Vector.toList (uW ((uV a) * ((2 : Nat) ^ (Int.toNat n))))) = (Vector.toList (uW ((uV a) * ((2 : Nat) ^ (Int.toNat n))))))) true) ((((-(9223372036854775808 : Int)) ≤ n) ∧ (n < (9223372036854775808 : Int))) ∧ ((((-(9223372036854775808 : Int)) ≤ n) ∧ (n < (9223372036854775808 : Int))) ∧ (condP (eqb (bif true then (decide ((Vector.toList (uW ((uV a) / ((2 : Nat) ^ (Int.toNat n))))) = (Vector.toList (uW ((uV a) / ((2 : Nat) ^ (Int.toNat n))))))) else false) true) (Q (law03_BigMoves_enc true)) (Q (law03_BigMoves_enc false))))) (Q (law03_BigMoves_enc false))))) := by kernel_rfl
theorem law03_BigMoves_w (a : Vector UInt64 4) (n : Int) {r} {Q : CallOut → Prop} (h : law03_BigMoves a n = some r) (hQ : Q (law03_BigMoves_enc r)) : evalFnP law03_BigMoves_C law03_BigMoves_lv law03_BigMoves_r law03_BigMoves_hs law03_BigMoves_b [.pv (.arr .u64 4 a), .pv (.sc .i n)] [] Q :=
  Eq.mpr (law03_BigMoves_e a n Q) (have h := (law03_BigMoves_q a n).symm.trans h; ite_ok h fun hc0 h => ⟨hc0, cond_ok h (fun h => ⟨hc0, ⟨hc0, cond_ok h (fun h => ret_ok (Q := Q) (e := law03_BigMoves_enc) h hQ) (fun h => ret_ok (Q := Q) (e := law03_BigMoves_enc) h hQ)⟩⟩) (fun h => ret_ok (Q := Q) (e := law03_BigMoves_enc) h hQ)⟩)
def law03_BigMoves_c : Ans
  | [.pv (.arr .u64 4 a), .pv (.sc .i n)], [] => some (some (-9223372036854775808 ≤ n ∧ n < 9223372036854775808), law03_BigMoves_enc (true))
  | _, _ => none
theorem law03_BigMoves_tok : TblOK Try.prog noG law03_BigMoves_T := .cons ⟨by kernel_rfl, big_Left_ok⟩ (.cons ⟨by kernel_rfl, ref03_Left_ok⟩ (.cons ⟨by kernel_rfl, big_Right_ok⟩ (.cons ⟨by kernel_rfl, ref03_Right_ok⟩ (.cons ⟨by kernel_rfl, law03_lives_ok⟩ (.nil)))))
theorem law03_BigMoves_ok : FnOK Try.prog noG 5 (unW law03_BigMoves_c) := by
  refine FnOK.ofC (T := law03_BigMoves_T) (nt := 24) (np := 0) (nf := false) (hs := law03_BigMoves_hs) (fn := Try.f5) (body := law03_BigMoves_b) law03_BigMoves_tok (by kernel_rfl) (by kernel_rfl) (by kernel_rfl) (by kernel_rfl) (c := law03_BigMoves_c) (lv := law03_BigMoves_lv) ?_
  intro xs mem p out h hp
  unfold law03_BigMoves_c at h
  split at h
  · cases h
    exact law03_BigMoves_w _ _ (law03_BigMoves_spec _ _ hp) rfl
  · cases h
end
end Go.Proofs.Ytepcjobghbanmaa.M

namespace Go.Proofs.Ytepcjobghbanmaa
open Go Go.ChangeShapes Go.WideShapes Go.ChangeAt Go.RowKit
open Go.Proofs.Ytepcjobghbanmaa
theorem law03_BigMoves_own : ownKnob Try.prog.godebug = none := by kernel_rfl
theorem law03_BigMoves_law : ∀ ys : List M.PV, M.FitL [.arr .u64 4, .sc .i] ys → ∃ p out, M.law03_BigMoves_c (ys.map .pv) [] = some (p, out) ∧ p.h ∧ out.val = .pv (.sc .b true) := by
  rintro ys ⟨_, _, rfl, ⟨x0, rfl, hx0⟩, ⟨_, _, rfl, ⟨x1, rfl, hx1⟩, rfl⟩⟩
  exact ⟨_, _, rfl, hx1, rfl⟩
set_option maxRecDepth 100000 in
theorem law03_BigMoves_lifted (os : Os) (started : os.Started) (H : Type) (enc : TypeId × Value → H) :
    ReturnsInHanded {} Try.checked os 5 .any (Rows.bigMovesSpec.pre6 enc Try.prog Try.f5 [] false)
      (Rows.bigMovesSpec.post enc Try.prog Try.f5 false true false false) := by
  refine returnsInHanded_of_change_sized (C := Try.checked) law03_BigMoves_own started (by kernel_rfl) (by kernel_rfl)
    (ChangeSpec.witness6 (enc := enc) (C := Try.checked) (os := os) false ⟨#[], #[.agg #[.int .u64 0, .int .u64 0, .int .u64 0, .int .u64 0], .int .i64 0], []⟩ 8 (by kernel_rfl) (by kernel_rfl) (by kernel_rfl) (by kernel_rfl)) ?_
  intro W base args ds gs before hval hW _ hsz _
  exact M.law_contract (ss := [.arr .u64 4, .sc .i]) (G := M.noG) (c := M.law03_BigMoves_c) (tb := 4) rfl (fun ds h => by
      match ds, h with
      | [d0, d1], _ => rfl) (by kernel_rfl) (by kernel_rfl) (by kernel_rfl) (by kernel_rfl) (by kernel_rfl) M.law03_BigMoves_ok law03_BigMoves_law hval hW hsz M.globOK_none
theorem bigMoves_row : Rows.BigMovesSaid :=
  OpenClaim.holds_of_wide 5 Try.f5 rfl rfl rfl rfl rfl rfl rfl ⟨rfl, rfl, rfl, rfl, rfl⟩ rfl rfl rfl rfl rfl (by kernel_rfl) (by kernel_rfl) (by kernel_rfl)
    (of_decide_eq_true (by kernel_rfl)) (by unfold Func.isWrapper; first | (rw [if_pos (by decide +kernel)]; kernel_rfl) | (rw [if_neg (by decide +kernel)]; exact ⟨rfl, rfl⟩))
    (fun os started H enc _ => law03_BigMoves_lifted os started H enc)
#print axioms bigMoves_row
end Go.Proofs.Ytepcjobghbanmaa
