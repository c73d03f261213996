/- The statement of BigBack: for every input the law returns true, and each argument reads behind the call as it read before. No condition. -/
import Derived.KernelRfl
import Derived.Test.YtepcjobghbanmaaProg
import Derived.Test.YtepcjobghbanmaaRows
import Derived.WalkKit
import Derived.ProofKit
import Derived.Handy
import Derived.Lay
import Derived.SizedLaws
import Derived.SevenTiedAt
import Derived.Test.YtepcjobghbanmaaLd
import Derived.Test.YtepcjobghbanmaaFbig
import Derived.Test.YtepcjobghbanmaaFlaw03
import Derived.Test.YtepcjobghbanmaaSwords
import Derived.Test.YtepcjobghbanmaaSbigS
import Derived.Test.YtepcjobghbanmaaSbigB
import Derived.Test.YtepcjobghbanmaaScellS
import Derived.Test.YtepcjobghbanmaaLe
set_option linter.unusedVariables false
set_option linter.unusedSimpArgs false
set_option autoImplicit false
namespace Go.Proofs.Ytepcjobghbanmaa.M
open Go
noncomputable section
/-- moneyer/moneyerlaw03.BigBack -/
def law03_BigBack (a : Vector UInt64 4) (n : UInt64) : Bool :=
  bif decide (n = (0 : UInt64)) then (bif eqb (decide ((divE n) = (2 : Int))) true then (true)
      else (false))
    else (bif eqb (decide ((divE n) = (0 : Int))) true then (bif eqb (bif true then (decide ((mulC (uW ((uV a) / (UInt64.toNat n))) n) = (0 : UInt64))) else false) true then (bif eqb (bif true then (!(addB (uW ((uV (uW ((uV a) / (UInt64.toNat n)))) * (UInt64.toNat n))) (uW (UInt64.toNat (divR a n))))) else false) true then (bif eqb (bif true then (decide ((Vector.toList (addV (uW ((uV (uW ((uV a) / (UInt64.toNat n)))) * (UInt64.toNat n))) (uW (UInt64.toNat (divR a n))))) = (Vector.toList a))) else false) true then (bif eqb (bif true then (decide ((divR a n) < n)) else false) true then (true)
              else (false))
            else (false))
          else (false))
        else (false))
      else (false))
theorem law03_BigBack_q (a : Vector UInt64 4) (n : UInt64) : law03_BigBack a n = (bif decide (n = (0 : UInt64)) then (bif eqb (decide ((divE n) = (2 : Int))) true then (true)
      else (false))
    else (bif eqb (decide ((divE n) = (0 : Int))) true then (bif eqb (bif true then (decide ((mulC (uW ((uV a) / (UInt64.toNat n))) n) = (0 : UInt64))) else false) true then (bif eqb (bif true then (!(addB (uW ((uV (uW ((uV a) / (UInt64.toNat n)))) * (UInt64.toNat n))) (uW (UInt64.toNat (divR a n))))) else false) true then (bif eqb (bif true then (decide ((Vector.toList (addV (uW ((uV (uW ((uV a) / (UInt64.toNat n)))) * (UInt64.toNat n))) (uW (UInt64.toNat (divR a n))))) = (Vector.toList a))) else false) true then (bif eqb (bif true then (decide ((divR a n) < n)) else false) true then (true)
              else (false))
            else (false))
          else (false))
        else (false))
      else (false))) := by kernel_rfl
theorem law03_BigBack_spec (a : Vector UInt64 4) (n : UInt64) : law03_BigBack a n = true := by
  unfold law03_BigBack
  by_cases c : n = 0
  · rw [bif_pos c, c, divE_eq]
    rfl
  rw [bif_neg c]
  have hn0 : n.toNat ≠ 0 := fun e => c (UInt64.toNat_inj.1 e)
  have hn : 0 < n.toNat := by omega
  have hnl := n.toNat_lt
  have hA := uV_lt a
  have hr := Nat.mod_lt (uV a) hn
  have hd := Nat.div_add_mod' (uV a) n.toNat
  have hq : uV a / n.toNat ≤ uV a := Nat.div_le_self _ _
  have e1 : divE n = 0 := by rw [divE_eq, if_neg hn0]
  have e2 : divR a n = UInt64.ofNat (uV a % n.toNat) := by rw [divR_eq, if_neg hn0]
  have e3 : (divR a n).toNat = uV a % n.toNat := by rw [e2, UInt64.toNat_ofNat', Nat.mod_eq_of_lt (by omega)]
  have e4 : uV (uW (uV a / n.toNat)) = uV a / n.toNat := by rw [uV_uW, Nat.mod_eq_of_lt (by omega)]
  have e5 : uV (uW (uV a / n.toNat * n.toNat)) = uV a / n.toNat * n.toNat := by rw [uV_uW, Nat.mod_eq_of_lt (by omega)]
  have e6 : uV (uW (uV a % n.toNat)) = uV a % n.toNat := by rw [uV_uW, Nat.mod_eq_of_lt (by omega)]
  have f1 : mulC (uW (uV a / n.toNat)) n = 0 := by
    rw [mulC_eq, e4, Nat.div_eq_of_lt (by omega)]
    rfl
  have f2 : addB (uW (uV a / n.toNat * n.toNat)) (uW (uV a % n.toNat)) = false := by
    rw [addB_eq, e5, e6, hd, decide_eq_true hA]
    rfl
  have f3 : addV (uW (uV a / n.toNat * n.toNat)) (uW (uV a % n.toNat)) = a := by
    rw [addV_eq, e5, e6, hd, uW_uV]
  have f4 : divR a n < n := by
    rw [UInt64.lt_iff_toNat_lt, e3]
    exact hr
  rw [e4, e3, f1, f2, f3, e1, decide_eq_true f4]
  simp [eqb]

end
end Go.Proofs.Ytepcjobghbanmaa.M

namespace Go.Proofs.Ytepcjobghbanmaa.M
open Go
noncomputable section
set_option maxRecDepth 100000
set_option maxHeartbeats 0
noncomputable def law03_BigBack_T : Tbl := [(17, [], big_Div_c), (19, [], law03_lives_c), (38, [], big_Mul_c), (28, [], big_Of_c), (20, [], big_Add_c)]
noncomputable def law03_BigBack_C : CfgW := mkC Try.prog noG law03_BigBack_T 62 0 false
def law03_BigBack_lv : Nat → List Nat := fun i => []
noncomputable abbrev law03_BigBack_b : Code := Try.f9.body.getD .skip
noncomputable abbrev law03_BigBack_r : List ResultVar := Try.f9.results.toList
def law03_BigBack_hs : List Nat := []

def law03_BigBack_enc (r : Bool) : CallOut := ⟨.pv (.sc .b r), [], true, []⟩
theorem law03_BigBack_e (a : Vector UInt64 4) (n : UInt64) (Q : CallOut → Prop) : evalFnP law03_BigBack_C law03_BigBack_lv law03_BigBack_r law03_BigBack_hs law03_BigBack_b [.pv (.arr .u64 4 a), .pv (.sc .u64 n)] [] Q =
    (condP (decide (n = (0 : UInt64))) (condP (eqb (decide ((divE n) = (2 : Int))) true) (Q (law03_BigBack_enc true)) (Q (law03_BigBack_enc false))) (condP (eqb (decide ((divE n) = (0 : Int))) true) (condP (eqb (bif true then (decide ((mulC (uW ((uV a) / (UInt64.toNat n))) n) = (0 : UInt64))) else false) true) (condP (eqb (bif true then (!(addB (uW ((uV (uW ((uV a) / (UInt64.toNat n)))) * (UInt64.toNat n))) (uW (UInt64.toNat (divR a n))))) else false) true) (condP (eqb (bif true then (decide ((Vector.toList (addV (uW ((uV (uW ((uV a) / (UInt64.toNat n)))) * (UInt64.toNat n))) (uW (UInt64.toNat (divR a n))))) = (Vector.toList a))) else false) true) (condP (eqb (bif true then (decide ((divR a n) < n)) else false) true) (Q (law03_BigBack_enc true)) (Q (law03_BigBack_enc false))) (Q (law03_BigBack_enc false))) (Q (law03_BigBack_enc false))) (Q (law03_BigBack_enc false))) (Q (law03_BigBack_enc false)))) := by kernel_rfl
theorem law03_BigBack_w (a : Vector UInt64 4) (n : UInt64) {Q : CallOut → Prop} (h : Q (law03_BigBack_enc (law03_BigBack a n))) : evalFnP law03_BigBack_C law03_BigBack_lv law03_BigBack_r law03_BigBack_hs law03_BigBack_b [.pv (.arr .u64 4 a), .pv (.sc .u64 n)] [] Q :=
  Eq.mpr (law03_BigBack_e a n Q) (have h := Eq.mp (congrArg (fun r => Q (law03_BigBack_enc r)) (law03_BigBack_q a n)) h; cond_ok2 (Q := fun r => Q (law03_BigBack_enc r)) h (fun h => cond_ok2 (Q := fun r => Q (law03_BigBack_enc r)) h (fun h => h) (fun h => h)) (fun h => cond_ok2 (Q := fun r => Q (law03_BigBack_enc r)) h (fun h => cond_ok2 (Q := fun r => Q (law03_BigBack_enc r)) h (fun h => cond_ok2 (Q := fun r => Q (law03_BigBack_enc r)) h (fun h => cond_ok2 (Q := fun r => Q (law03_BigBack_enc r)) h (fun h => cond_ok2 (Q := fun r => Q (law03_BigBack_enc r)) h (fun h => h) (fun h => h)) (fun h => h)) (fun h => h)) (fun h => h)) (fun h => h)))
def law03_BigBack_c : Ans
  | [.pv (.arr .u64 4 a), .pv (.sc .u64 n)], [] => some (none, law03_BigBack_enc (true))
  | _, _ => none
theorem law03_BigBack_tok : TblOK Try.prog noG law03_BigBack_T := .cons ⟨by kernel_rfl, big_Div_ok⟩ (.cons ⟨by kernel_rfl, law03_lives_ok⟩ (.cons ⟨by kernel_rfl, big_Mul_ok⟩ (.cons ⟨by kernel_rfl, big_Of_ok⟩ (.cons ⟨by kernel_rfl, big_Add_ok⟩ (.nil)))))
theorem law03_BigBack_ok : FnOK Try.prog noG 9 (unW law03_BigBack_c) := by
  refine FnOK.ofC (T := law03_BigBack_T) (nt := 62) (np := 0) (nf := false) (hs := law03_BigBack_hs) (fn := Try.f9) (body := law03_BigBack_b) law03_BigBack_tok (by kernel_rfl) (by kernel_rfl) (by kernel_rfl) (by kernel_rfl) (c := law03_BigBack_c) (lv := law03_BigBack_lv) ?_
  intro xs mem p out h hp
  unfold law03_BigBack_c at h
  split at h
  · cases h
    exact law03_BigBack_w _ _ (congrArg law03_BigBack_enc (law03_BigBack_spec _ _))
  · cases h
end
end Go.Proofs.Ytepcjobghbanmaa.M

namespace Go.Proofs.Ytepcjobghbanmaa
open Go Go.ChangeShapes Go.WideShapes Go.ChangeAt Go.RowKit
open Go.Proofs.Ytepcjobghbanmaa
theorem law03_BigBack_own : ownKnob Try.prog.godebug = none := by kernel_rfl
theorem law03_BigBack_law : ∀ ys : List M.PV, M.FitL [.arr .u64 4, .sc .u64] ys → ∃ p out, M.law03_BigBack_c (ys.map .pv) [] = some (p, out) ∧ p.h ∧ out.val = .pv (.sc .b true) := by
  rintro ys ⟨_, _, rfl, ⟨x0, rfl, hx0⟩, ⟨_, _, rfl, ⟨x1, rfl, hx1⟩, rfl⟩⟩
  exact ⟨_, _, rfl, trivial, rfl⟩
set_option maxRecDepth 100000 in
theorem law03_BigBack_lifted (os : Os) (started : os.Started) (H : Type) (enc : TypeId × Value → H) :
    ReturnsInHanded {} Try.checked os 9 .any (Rows.bigBackSpec.pre6 enc Try.prog Try.f9 [] false)
      (Rows.bigBackSpec.post enc Try.prog Try.f9 false true false false) := by
  refine returnsInHanded_of_change_sized (C := Try.checked) law03_BigBack_own started (by kernel_rfl) (by kernel_rfl)
    (ChangeSpec.witness6 (enc := enc) (C := Try.checked) (os := os) false ⟨#[], #[.agg #[.int .u64 0, .int .u64 0, .int .u64 0, .int .u64 0], .int .u64 0], []⟩ 8 (by kernel_rfl) (by kernel_rfl) (by kernel_rfl) (by kernel_rfl)) ?_
  intro W base args ds gs before hval hW _ hsz _
  exact M.law_contract (ss := [.arr .u64 4, .sc .u64]) (G := M.noG) (c := M.law03_BigBack_c) (tb := 4) rfl (fun ds h => by
      match ds, h with
      | [d0, d1], _ => rfl) (by kernel_rfl) (by kernel_rfl) (by kernel_rfl) (by kernel_rfl) (by kernel_rfl) M.law03_BigBack_ok law03_BigBack_law hval hW hsz M.globOK_none
theorem bigBack_row : Rows.BigBackSaid :=
  OpenClaim.holds_of_wide 9 Try.f9 rfl rfl rfl rfl rfl rfl rfl ⟨rfl, rfl, rfl, rfl, rfl⟩ rfl rfl rfl rfl rfl (by kernel_rfl) (by kernel_rfl) (by kernel_rfl)
    (of_decide_eq_true (by kernel_rfl)) (by unfold Func.isWrapper; first | (rw [if_pos (by decide +kernel)]; kernel_rfl) | (rw [if_neg (by decide +kernel)]; exact ⟨rfl, rfl⟩))
    (fun os started H enc _ => law03_BigBack_lifted os started H enc)
#print axioms bigBack_row
end Go.Proofs.Ytepcjobghbanmaa
