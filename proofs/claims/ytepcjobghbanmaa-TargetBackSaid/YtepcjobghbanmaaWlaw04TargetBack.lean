/- The statement of TargetBack: for every input the law returns true, and each argument reads behind the call as it read before. No condition. -/
import Derived.KernelRfl
import Derived.Test.YtepcjobghbanmaaProg
import Derived.Test.YtepcjobghbanmaaRows
import Derived.WalkKit
import Derived.ProofKit
import Derived.Handy
import Derived.Lay
import Derived.SizedLaws
import Derived.SevenTiedAt
import Derived.Test.YtepcjobghbanmaaLd
import Derived.Test.YtepcjobghbanmaaFtarget
import Derived.Test.YtepcjobghbanmaaFlaw04
import Derived.Test.YtepcjobghbanmaaFref03
import Derived.Test.YtepcjobghbanmaaSwords
import Derived.Test.YtepcjobghbanmaaSbigS
import Derived.Test.YtepcjobghbanmaaSbigB
import Derived.Test.YtepcjobghbanmaaStarS
import Derived.Test.YtepcjobghbanmaaLe
set_option linter.unusedVariables false
set_option linter.unusedSimpArgs false
set_option autoImplicit false
namespace Go.Proofs.Ytepcjobghbanmaa.M
open Go
noncomputable section
/-- moneyer/moneyerlaw04.TargetBack -/
def law04_TargetBack (bits : UInt32) (t : Vector UInt64 4) : Bool :=
  bif eqb (decide ((ofE bits) = (0 : Int))) true then (bif bif true then (!(decide ((bitsW (ofV bits)) = bits))) else false then (false)
      else (bif decide ((Vector.toList t) = (Vector.toList (Vector.replicate (4 : Nat) (0 : UInt64)))) then (bif eqb (decide ((bitsW t) = (0 : UInt32))) true then (true)
          else (false))
        else (bif eqb (decide ((ofE (bitsW t)) = (0 : Int))) true then (bif eqb (bif true then (!(subB t (ofV (bitsW t)))) else false) true then (bif eqb (bif true then (decide ((bitsW (ofV (bitsW t))) = (bitsW t))) else false) true then (true)
              else (false))
            else (false))
          else (false))))
    else (bif decide ((Vector.toList t) = (Vector.toList (Vector.replicate (4 : Nat) (0 : UInt64)))) then (bif eqb (decide ((bitsW t) = (0 : UInt32))) true then (true)
        else (false))
      else (bif eqb (decide ((ofE (bitsW t)) = (0 : Int))) true then (bif eqb (bif true then (!(subB t (ofV (bitsW t)))) else false) true then (bif eqb (bif true then (decide ((bitsW (ofV (bitsW t))) = (bitsW t))) else false) true then (true)
            else (false))
          else (false))
        else (false)))
theorem law04_TargetBack_q (bits : UInt32) (t : Vector UInt64 4) : law04_TargetBack bits t = (bif eqb (decide ((ofE bits) = (0 : Int))) true then (bif bif true then (!(decide ((bitsW (ofV bits)) = bits))) else false then (false)
      else (bif decide ((Vector.toList t) = (Vector.toList (Vector.replicate (4 : Nat) (0 : UInt64)))) then (bif eqb (decide ((bitsW t) = (0 : UInt32))) true then (true)
          else (false))
        else (bif eqb (decide ((ofE (bitsW t)) = (0 : Int))) true then (bif eqb (bif true then (!(subB t (ofV (bitsW t)))) else false) true then (bif eqb (bif true then (decide ((bitsW (ofV (bitsW t))) = (bitsW t))) else false) true then (true)
              else (false))
            else (false))
          else (false))))
    else (bif decide ((Vector.toList t) = (Vector.toList (Vector.replicate (4 : Nat) (0 : UInt64)))) then (bif eqb (decide ((bitsW t) = (0 : UInt32))) true then (true)
        else (false))
      else (bif eqb (decide ((ofE (bitsW t)) = (0 : Int))) true then (bif eqb (bif true then (!(subB t (ofV (bitsW t)))) else false) true then (bif eqb (bif true then (decide ((bitsW (ofV (bitsW t))) = (bitsW t))) else false) true then (true)
            else (false))
          else (false))
        else (false)))) := by kernel_rfl
theorem back_bits {b : UInt32} (h : okP b.toNat) : bitsW (ofV b) = b := by
  rw [bitsW_iff, ofV_val h]
  exact h.2.2.2
theorem law04_TargetBack_spec (bits : UInt32) (t : Vector UInt64 4) : law04_TargetBack bits t = true := by
  have tail : (bif decide (Vector.toList t = Vector.toList (Vector.replicate 4 (0 : UInt64))) then (bif eqb (decide (bitsW t = 0)) true then true else false)
      else (bif eqb (decide (ofE (bitsW t) = 0)) true then (bif eqb (bif true then !subB t (ofV (bitsW t)) else false) true then (bif eqb (bif true then decide (bitsW (ofV (bitsW t)) = bitsW t) else false) true then true else false) else false) else false)) = true := by
    by_cases c : Vector.toList t = Vector.toList (Vector.replicate 4 (0 : UInt64))
    · rw [bif_pos c]
      rw [uV_zero] at c
      have e : bitsW t = 0 := by
        rw [bitsW_iff, c]
        unfold bitsN
        rw [if_pos rfl]; rfl
      rw [decide_eq_true e]; rfl
    · rw [bif_neg c]
      rw [uV_zero] at c
      have ok : okP (bitsW t).toNat := by
        rw [bitsW_val]
        exact ok_bits c (by rw [two256]; exact uV_lt t)
      have hv : uV (ofV (bitsW t)) ≤ uV t := by
        rw [ofV_val ok, bitsW_val, tgt_bits c]
        exact flN_le _
      rw [(ofE_iff _).2 ok, back_bits ok, subB_eq, decide_eq_false (p := uV t < uV (ofV (bitsW t))) (by omega)]
      simp [eqb]
  rw [law04_TargetBack]
  by_cases h : okP bits.toNat
  · rw [(ofE_iff _).2 h, back_bits h]
    simp only [decide_true, Bool.not_true, eqb, cond_true, cond_false]
    simpa only [eqb, cond_true] using tail
  · have e0 : ofE bits ≠ 0 := fun e => h ((ofE_iff bits).1 e)
    rw [decide_eq_false e0]
    exact tail

end
end Go.Proofs.Ytepcjobghbanmaa.M

namespace Go.Proofs.Ytepcjobghbanmaa.M
open Go
noncomputable section
set_option maxRecDepth 100000
set_option maxHeartbeats 0
noncomputable def law04_TargetBack_T : Tbl := [(40, [], target_Of_c), (44, [], target_Bits_c), (46, [], law04_lives_c), (35, [], ref03_Less_c)]
noncomputable def law04_TargetBack_C : CfgW := mkC Try.prog noG law04_TargetBack_T 55 0 false
def law04_TargetBack_lv : Nat → List Nat := fun i => []
noncomputable abbrev law04_TargetBack_b : Code := Try.f11.body.getD .skip
noncomputable abbrev law04_TargetBack_r : List ResultVar := Try.f11.results.toList
def law04_TargetBack_hs : List Nat := []

def law04_TargetBack_enc (r : Bool) : CallOut := ⟨.pv (.sc .b r), [], true, []⟩
theorem law04_TargetBack_e (bits : UInt32) (t : Vector UInt64 4) (Q : CallOut → Prop) : evalFnP law04_TargetBack_C law04_TargetBack_lv law04_TargetBack_r law04_TargetBack_hs law04_TargetBack_b [.pv (.sc .u32 bits), .pv (.arr .u64 4 t)] [] Q =
    (condP (eqb (decide ((ofE bits) = (0 : Int))) true) (condP (bif true then (!(decide ((bitsW (ofV bits)) = bits))) else false) (Q (law04_TargetBack_enc false)) (condP (decide ((Vector.toList t) = (Vector.toList (Vector.replicate (4 : Nat) (0 : UInt64))))) (condP (eqb (decide ((bitsW t) = (0 : UInt32))) true) (Q (law04_TargetBack_enc true)) (Q (law04_TargetBack_enc false))) (condP (eqb (decide ((ofE (bitsW t)) = (0 : Int))) true) (condP (eqb (bif true then (!(subB t (ofV (bitsW t)))) else false) true) (condP (eqb (bif true then (decide ((bitsW (ofV (bitsW t))) = (bitsW t))) else false) true) (Q (law04_TargetBack_enc true)) (Q (law04_TargetBack_enc false))) (Q (law04_TargetBack_enc false))) (Q (law04_TargetBack_enc false))))) (condP (decide ((Vector.toList t) = (Vector.toList (Vector.replicate (4 : Nat) (0 : UInt64))))) (condP (eqb (decide ((bitsW t) = (0 : UInt32))) true) (Q (law04_TargetBack_enc true)) (Q (law04_TargetBack_enc false))) (condP (eqb (decide ((ofE (bitsW t)) = (0 : Int))) true) (condP (eqb (bif true then (!(subB t (ofV (bitsW t)))) else false) true) (condP (eqb (bif true then (decide ((bitsW (ofV (bitsW t))) = (bitsW t))) else false) true) (Q (law04_TargetBack_enc true)) (Q (law04_TargetBack_enc false))) (Q (law04_TargetBack_enc false))) (Q (law04_TargetBack_enc false))))) := by kernel_rfl
theorem law04_TargetBack_w (bits : UInt32) (t : Vector UInt64 4) {Q : CallOut → Prop} (h : Q (law04_TargetBack_enc (law04_TargetBack bits t))) : evalFnP law04_TargetBack_C law04_TargetBack_lv law04_TargetBack_r law04_TargetBack_hs law04_TargetBack_b [.pv (.sc .u32 bits), .pv (.arr .u64 4 t)] [] Q :=
  Eq.mpr (law04_TargetBack_e bits t Q) (have h := Eq.mp (congrArg (fun r => Q (law04_TargetBack_enc r)) (law04_TargetBack_q bits t)) h; cond_ok2 (Q := fun r => Q (law04_TargetBack_enc r)) h (fun h => cond_ok2 (Q := fun r => Q (law04_TargetBack_enc r)) h (fun h => h) (fun h => cond_ok2 (Q := fun r => Q (law04_TargetBack_enc r)) h (fun h => cond_ok2 (Q := fun r => Q (law04_TargetBack_enc r)) h (fun h => h) (fun h => h)) (fun h => cond_ok2 (Q := fun r => Q (law04_TargetBack_enc r)) h (fun h => cond_ok2 (Q := fun r => Q (law04_TargetBack_enc r)) h (fun h => cond_ok2 (Q := fun r => Q (law04_TargetBack_enc r)) h (fun h => h) (fun h => h)) (fun h => h)) (fun h => h)))) (fun h => cond_ok2 (Q := fun r => Q (law04_TargetBack_enc r)) h (fun h => cond_ok2 (Q := fun r => Q (law04_TargetBack_enc r)) h (fun h => h) (fun h => h)) (fun h => cond_ok2 (Q := fun r => Q (law04_TargetBack_enc r)) h (fun h => cond_ok2 (Q := fun r => Q (law04_TargetBack_enc r)) h (fun h => cond_ok2 (Q := fun r => Q (law04_TargetBack_enc r)) h (fun h => h) (fun h => h)) (fun h => h)) (fun h => h))))
def law04_TargetBack_c : Ans
  | [.pv (.sc .u32 bits), .pv (.arr .u64 4 t)], [] => some (none, law04_TargetBack_enc (true))
  | _, _ => none
theorem law04_TargetBack_tok : TblOK Try.prog noG law04_TargetBack_T := .cons ⟨by kernel_rfl, target_Of_ok⟩ (.cons ⟨by kernel_rfl, target_Bits_ok⟩ (.cons ⟨by kernel_rfl, law04_lives_ok⟩ (.cons ⟨by kernel_rfl, ref03_Less_ok⟩ (.nil))))
theorem law04_TargetBack_ok : FnOK Try.prog noG 11 (unW law04_TargetBack_c) := by
  refine FnOK.ofC (T := law04_TargetBack_T) (nt := 55) (np := 0) (nf := false) (hs := law04_TargetBack_hs) (fn := Try.f11) (body := law04_TargetBack_b) law04_TargetBack_tok (by kernel_rfl) (by kernel_rfl) (by kernel_rfl) (by kernel_rfl) (c := law04_TargetBack_c) (lv := law04_TargetBack_lv) ?_
  intro xs mem p out h hp
  unfold law04_TargetBack_c at h
  split at h
  · cases h
    exact law04_TargetBack_w _ _ (congrArg law04_TargetBack_enc (law04_TargetBack_spec _ _))
  · cases h
end
end Go.Proofs.Ytepcjobghbanmaa.M

namespace Go.Proofs.Ytepcjobghbanmaa
open Go Go.ChangeShapes Go.WideShapes Go.ChangeAt Go.RowKit
open Go.Proofs.Ytepcjobghbanmaa
theorem law04_TargetBack_own : ownKnob Try.prog.godebug = none := by kernel_rfl
theorem law04_TargetBack_law : ∀ ys : List M.PV, M.FitL [.sc .u32, .arr .u64 4] ys → ∃ p out, M.law04_TargetBack_c (ys.map .pv) [] = some (p, out) ∧ p.h ∧ out.val = .pv (.sc .b true) := by
  rintro ys ⟨_, _, rfl, ⟨x0, rfl, hx0⟩, ⟨_, _, rfl, ⟨x1, rfl, hx1⟩, rfl⟩⟩
  exact ⟨_, _, rfl, trivial, rfl⟩
set_option maxRecDepth 100000 in
theorem law04_TargetBack_lifted (os : Os) (started : os.Started) (H : Type) (enc : TypeId × Value → H) :
    ReturnsInHanded {} Try.checked os 11 .any (Rows.targetBackSpec.pre6 enc Try.prog Try.f11 [] false)
      (Rows.targetBackSpec.post enc Try.prog Try.f11 false true false false) := by
  refine returnsInHanded_of_change_sized (C := Try.checked) law04_TargetBack_own started (by kernel_rfl) (by kernel_rfl)
    (ChangeSpec.witness6 (enc := enc) (C := Try.checked) (os := os) false ⟨#[], #[.int .u32 0, .agg #[.int .u64 0, .int .u64 0, .int .u64 0, .int .u64 0]], []⟩ 8 (by kernel_rfl) (by kernel_rfl) (by kernel_rfl) (by kernel_rfl)) ?_
  intro W base args ds gs before hval hW _ hsz _
  exact M.law_contract (ss := [.sc .u32, .arr .u64 4]) (G := M.noG) (c := M.law04_TargetBack_c) (tb := 4) rfl (fun ds h => by
      match ds, h with
      | [d0, d1], _ => rfl) (by kernel_rfl) (by kernel_rfl) (by kernel_rfl) (by kernel_rfl) (by kernel_rfl) M.law04_TargetBack_ok law04_TargetBack_law hval hW hsz M.globOK_none
theorem targetBack_row : Rows.TargetBackSaid :=
  OpenClaim.holds_of_wide 11 Try.f11 rfl rfl rfl rfl rfl rfl rfl ⟨rfl, rfl, rfl, rfl, rfl⟩ rfl rfl rfl rfl rfl (by kernel_rfl) (by kernel_rfl) (by kernel_rfl)
    (of_decide_eq_true (by kernel_rfl)) (by unfold Func.isWrapper; first | (rw [if_pos (by decide +kernel)]; kernel_rfl) | (rw [if_neg (by decide +kernel)]; exact ⟨rfl, rfl⟩))
    (fun os started H enc _ => law04_TargetBack_lifted os started H enc)
#print axioms targetBack_row
end Go.Proofs.Ytepcjobghbanmaa
