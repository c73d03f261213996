/- The statement of BigOf: for every input the law returns true, and each argument reads behind the call as it read before. No condition. -/
import Derived.KernelRfl
import Derived.Test.YtepcjobghbanmaaProg
import Derived.Test.YtepcjobghbanmaaRows
import Derived.WalkKit
import Derived.ProofKit
import Derived.Handy
import Derived.Lay
import Derived.SizedLaws
import Derived.SevenTiedAt
import Derived.Test.YtepcjobghbanmaaLd
import Derived.Test.YtepcjobghbanmaaFbig
import Derived.Test.YtepcjobghbanmaaFref03
import Derived.Test.YtepcjobghbanmaaFlaw03
import Derived.Test.YtepcjobghbanmaaSwords
import Derived.Test.YtepcjobghbanmaaSbigS
import Derived.Test.YtepcjobghbanmaaSbigB
import Derived.Test.YtepcjobghbanmaaScellS
import Derived.Test.YtepcjobghbanmaaLe
set_option linter.unusedVariables false
set_option linter.unusedSimpArgs false
set_option autoImplicit false
namespace Go.Proofs.Ytepcjobghbanmaa.M
open Go
noncomputable section
/-- moneyer/moneyerlaw03.BigOf -/
def law03_BigOf (a : Vector UInt64 4) (b : Vector UInt64 4) (h_2 : Vector UInt8 32) (n : UInt64) : Bool :=
  bif eqb (decide ((Vector.toList (uW (UInt64.toNat n))) = (Vector.toList (uW (UInt64.toNat n))))) true then (bif eqb (bif true then (decide ((Vector.toList (hashU h_2)) = (Vector.toList (hashU h_2)))) else false) true then (bif eqb (bif true then (decide ((Vector.toList (hashV (uV a))) = (Vector.toList (hashV (uV a))))) else false) true then (bif eqb (bif true then (decide ((subB a b) = (subB a b))) else false) true then (bif eqb (bif true then (decide ((((lenN (uV a)) : Nat) : Int) = (((lenN (uV a)) : Nat) : Int))) else false) true then (true)
            else (false))
          else (false))
        else (false))
      else (false))
    else (false)
theorem law03_BigOf_q (a : Vector UInt64 4) (b : Vector UInt64 4) (h_2 : Vector UInt8 32) (n : UInt64) : law03_BigOf a b h_2 n = (bif eqb (decide ((Vector.toList (uW (UInt64.toNat n))) = (Vector.toList (uW (UInt64.toNat n))))) true then (bif eqb (bif true then (decide ((Vector.toList (hashU h_2)) = (Vector.toList (hashU h_2)))) else false) true then (bif eqb (bif true then (decide ((Vector.toList (hashV (uV a))) = (Vector.toList (hashV (uV a))))) else false) true then (bif eqb (bif true then (decide ((subB a b) = (subB a b))) else false) true then (bif eqb (bif true then (decide ((((lenN (uV a)) : Nat) : Int) = (((lenN (uV a)) : Nat) : Int))) else false) true then (true)
            else (false))
          else (false))
        else (false))
      else (false))
    else (false)) := by kernel_rfl
theorem law03_BigOf_spec (a b : Vector UInt64 4) (h : Vector UInt8 32) (n : UInt64) : law03_BigOf a b h n = true := by
  unfold law03_BigOf
  simp [eqb]

end
end Go.Proofs.Ytepcjobghbanmaa.M

namespace Go.Proofs.Ytepcjobghbanmaa.M
open Go
noncomputable section
set_option maxRecDepth 100000
set_option maxHeartbeats 0
noncomputable def law03_BigOf_T : Tbl := [(28, [], big_Of_c), (29, [], ref03_Of_c), (30, [], big_OfHash_c), (31, [], ref03_OfHash_c), (32, [], big_ToHash_c), (33, [], ref03_ToHash_c), (34, [], big_Less_c), (35, [], ref03_Less_c), (36, [], big_Len_c), (37, [], ref03_Len_c), (19, [], law03_lives_c)]
noncomputable def law03_BigOf_C : CfgW := mkC Try.prog noG law03_BigOf_T 47 0 false
def law03_BigOf_lv : Nat → List Nat := fun i => []
noncomputable abbrev law03_BigOf_b : Code := Try.f6.body.getD .skip
noncomputable abbrev law03_BigOf_r : List ResultVar := Try.f6.results.toList
def law03_BigOf_hs : List Nat := []

def law03_BigOf_enc (r : Bool) : CallOut := ⟨.pv (.sc .b r), [], true, []⟩
theorem law03_BigOf_e (a : Vector UInt64 4) (b : Vector UInt64 4) (h_2 : Vector UInt8 32) (n : UInt64) (Q : CallOut → Prop) : evalFnP law03_BigOf_C law03_BigOf_lv law03_BigOf_r law03_BigOf_hs law03_BigOf_b [.pv (.arr .u64 4 a), .pv (.arr .u64 4 b), .pv (.arr .u8 32 h_2), .pv (.sc .u64 n)] [] Q =
    (condP (eqb (decide ((Vector.toList (uW (UInt64.toNat n))) = (Vector.toList (uW (UInt64.toNat n))))) true) (condP (eqb (bif true then (decide ((Vector.toList (hashU h_2)) = (Vector.toList (hashU h_2)))) else false) true) (condP (eqb (bif true then (decide ((Vector.toList (hashV (uV a))) = (Vector.toList (hashV (uV a))))) else false) true) (condP (eqb (bif true then (decide ((subB a b) = (subB a b))) else false) true) (condP (eqb (bif true then (decide ((((lenN (uV a)) : Nat) : Int) = (((lenN (uV a)) : Nat) : Int))) else false) true) (Q (law03_BigOf_enc true)) (Q (law03_BigOf_enc false))) (Q (law03_BigOf_enc false))) (Q (law03_BigOf_enc false))) (Q (law03_BigOf_enc false))) (Q (law03_BigOf_enc false))) := by kernel_rfl
theorem law03_BigOf_w (a : Vector UInt64 4) (b : Vector UInt64 4) (h_2 : Vector UInt8 32) (n : UInt64) {Q : CallOut → Prop} (h : Q (law03_BigOf_enc (law03_BigOf a b h_2 n))) : evalFnP law03_BigOf_C law03_BigOf_lv law03_BigOf_r law03_BigOf_hs law03_BigOf_b [.pv (.arr .u64 4 a), .pv (.arr .u64 4 b), .pv (.arr .u8 32 h_2), .pv (.sc .u64 n)] [] Q :=
  Eq.mpr (law03_BigOf_e a b h_2 n Q) (have h := Eq.mp (congrArg (fun r => Q (law03_BigOf_enc r)) (law03_BigOf_q a b h_2 n)) h; cond_ok2 (Q := fun r => Q (law03_BigOf_enc r)) h (fun h => cond_ok2 (Q := fun r => Q (law03_BigOf_enc r)) h (fun h => cond_ok2 (Q := fun r => Q (law03_BigOf_enc r)) h (fun h => cond_ok2 (Q := fun r => Q (law03_BigOf_enc r)) h (fun h => cond_ok2 (Q := fun r => Q (law03_BigOf_enc r)) h (fun h => h) (fun h => h)) (fun h => h)) (fun h => h)) (fun h => h)) (fun h => h))
def law03_BigOf_c : Ans
  | [.pv (.arr .u64 4 a), .pv (.arr .u64 4 b), .pv (.arr .u8 32 h_2), .pv (.sc .u64 n)], [] => some (none, law03_BigOf_enc (true))
  | _, _ => none
theorem law03_BigOf_tok : TblOK Try.prog noG law03_BigOf_T := .cons ⟨by kernel_rfl, big_Of_ok⟩ (.cons ⟨by kernel_rfl, ref03_Of_ok⟩ (.cons ⟨by kernel_rfl, big_OfHash_ok⟩ (.cons ⟨by kernel_rfl, ref03_OfHash_ok⟩ (.cons ⟨by kernel_rfl, big_ToHash_ok⟩ (.cons ⟨by kernel_rfl, ref03_ToHash_ok⟩ (.cons ⟨by kernel_rfl, big_Less_ok⟩ (.cons ⟨by kernel_rfl, ref03_Less_ok⟩ (.cons ⟨by kernel_rfl, big_Len_ok⟩ (.cons ⟨by kernel_rfl, ref03_Len_ok⟩ (.cons ⟨by kernel_rfl, law03_lives_ok⟩ (.nil)))))))))))
theorem law03_BigOf_ok : FnOK Try.prog noG 6 (unW law03_BigOf_c) := by
  refine FnOK.ofC (T := law03_BigOf_T) (nt := 47) (np := 0) (nf := false) (hs := law03_BigOf_hs) (fn := Try.f6) (body := law03_BigOf_b) law03_BigOf_tok (by kernel_rfl) (by kernel_rfl) (by kernel_rfl) (by kernel_rfl) (c := law03_BigOf_c) (lv := law03_BigOf_lv) ?_
  intro xs mem p out h hp
  unfold law03_BigOf_c at h
  split at h
  · cases h
    exact law03_BigOf_w _ _ _ _ (congrArg law03_BigOf_enc (law03_BigOf_spec _ _ _ _))
  · cases h
end
end Go.Proofs.Ytepcjobghbanmaa.M

namespace Go.Proofs.Ytepcjobghbanmaa
open Go Go.ChangeShapes Go.WideShapes Go.ChangeAt Go.RowKit
open Go.Proofs.Ytepcjobghbanmaa
theorem law03_BigOf_own : ownKnob Try.prog.godebug = none := by kernel_rfl
theorem law03_BigOf_law : ∀ ys : List M.PV, M.FitL [.arr .u64 4, .arr .u64 4, .arr .u8 32, .sc .u64] ys → ∃ p out, M.law03_BigOf_c (ys.map .pv) [] = some (p, out) ∧ p.h ∧ out.val = .pv (.sc .b true) := by
  rintro ys ⟨_, _, rfl, ⟨x0, rfl, hx0⟩, ⟨_, _, rfl, ⟨x1, rfl, hx1⟩, ⟨_, _, rfl, ⟨x2, rfl, hx2⟩, ⟨_, _, rfl, ⟨x3, rfl, hx3⟩, rfl⟩⟩⟩⟩
  exact ⟨_, _, rfl, trivial, rfl⟩
set_option maxRecDepth 100000 in
theorem law03_BigOf_lifted (os : Os) (started : os.Started) (H : Type) (enc : TypeId × Value → H) :
    ReturnsInHanded {} Try.checked os 6 .any (Rows.bigOfSpec.pre6 enc Try.prog Try.f6 [] false)
      (Rows.bigOfSpec.post enc Try.prog Try.f6 false true false false) := by
  refine returnsInHanded_of_change_sized (C := Try.checked) law03_BigOf_own started (by kernel_rfl) (by kernel_rfl)
    (ChangeSpec.witness6 (enc := enc) (C := Try.checked) (os := os) false ⟨#[], #[.agg #[.int .u64 0, .int .u64 0, .int .u64 0, .int .u64 0], .agg #[.int .u64 0, .int .u64 0, .int .u64 0, .int .u64 0], .agg (Array.replicate 32 (.int .u8 0)), .int .u64 0], []⟩ 8 (by kernel_rfl) (by kernel_rfl) (by kernel_rfl) (by kernel_rfl)) ?_
  intro W base args ds gs before hval hW _ hsz _
  exact M.law_contract (ss := [.arr .u64 4, .arr .u64 4, .arr .u8 32, .sc .u64]) (G := M.noG) (c := M.law03_BigOf_c) (tb := 4) rfl (fun ds h => by
      match ds, h with
      | [d0, d1, d2, d3], _ => rfl) (by kernel_rfl) (by kernel_rfl) (by kernel_rfl) (by kernel_rfl) (by kernel_rfl) M.law03_BigOf_ok law03_BigOf_law hval hW hsz M.globOK_none
theorem bigOf_row : Rows.BigOfSaid :=
  OpenClaim.holds_of_wide 6 Try.f6 rfl rfl rfl rfl rfl rfl rfl ⟨rfl, rfl, rfl, rfl, rfl⟩ rfl rfl rfl rfl rfl (by kernel_rfl) (by kernel_rfl) (by kernel_rfl)
    (of_decide_eq_true (by kernel_rfl)) (by unfold Func.isWrapper; first | (rw [if_pos (by decide +kernel)]; kernel_rfl) | (rw [if_neg (by decide +kernel)]; exact ⟨rfl, rfl⟩))
    (fun os started H enc _ => law03_BigOf_lifted os started H enc)
#print axioms bigOf_row
end Go.Proofs.Ytepcjobghbanmaa
