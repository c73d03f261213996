/- The statement of TargetSlow: for every input the law returns true, and each argument reads behind the call as it read before. No condition. -/
import Derived.KernelRfl
import Derived.Test.YtepcjobghbanmaaProg
import Derived.Test.YtepcjobghbanmaaRows
import Derived.WalkKit
import Derived.ProofKit
import Derived.Handy
import Derived.Lay
import Derived.SizedLaws
import Derived.SevenTiedAt
import Derived.Test.YtepcjobghbanmaaLd
import Derived.Test.YtepcjobghbanmaaFtarget
import Derived.Test.YtepcjobghbanmaaFlaw04
import Derived.Test.YtepcjobghbanmaaFref03
import Derived.Test.YtepcjobghbanmaaSwords
import Derived.Test.YtepcjobghbanmaaSbigS
import Derived.Test.YtepcjobghbanmaaSbigB
import Derived.Test.YtepcjobghbanmaaStarS
import Derived.Test.YtepcjobghbanmaaLe
set_option linter.unusedVariables false
set_option linter.unusedSimpArgs false
set_option autoImplicit false
namespace Go.Proofs.Ytepcjobghbanmaa.M
open Go
noncomputable section
/-- moneyer/moneyerlaw04.TargetSlow -/
def law04_TargetSlow (bits : UInt32) (a : UInt32) (b : UInt32) : Bool :=
  bif !(decide ((ofE bits) = (0 : Int))) then (bif eqb (decide ((ofE bits) = (ofE bits))) true then (true)
      else (false))
    else (bif eqb (decide ((ofE bits) = (0 : Int))) true then (bif eqb (bif true then (decide ((ofE (nextW bits (bif true then (if (b < a) then b else a) else (if (a < b) then b else a)))) = (0 : Int))) else false) true then (bif eqb (bif true then (decide ((ofE (nextW bits (bif false then (if (b < a) then b else a) else (if (a < b) then b else a)))) = (0 : Int))) else false) true then (bif eqb (bif true then (decide ((ofE (545259519 : UInt32)) = (0 : Int))) else false) true then (bif eqb (bif true then (!(subB (ofV (nextW bits (bif false then (if (b < a) then b else a) else (if (a < b) then b else a)))) (ofV (nextW bits (bif true then (if (b < a) then b else a) else (if (a < b) then b else a)))))) else false) true then (bif eqb (bif true then (!(subB (ofV (545259519 : UInt32)) (ofV (nextW bits (bif false then (if (b < a) then b else a) else (if (a < b) then b else a)))))) else false) true then (true)
                else (false))
              else (false))
            else (false))
          else (false))
        else (false))
      else (false))
theorem law04_TargetSlow_q (bits : UInt32) (a : UInt32) (b : UInt32) : law04_TargetSlow bits a b = (bif !(decide ((ofE bits) = (0 : Int))) then (bif eqb (decide ((ofE bits) = (ofE bits))) true then (true)
      else (false))
    else (bif eqb (decide ((ofE bits) = (0 : Int))) true then (bif eqb (bif true then (decide ((ofE (nextW bits (bif true then (if (b < a) then b else a) else (if (a < b) then b else a)))) = (0 : Int))) else false) true then (bif eqb (bif true then (decide ((ofE (nextW bits (bif false then (if (b < a) then b else a) else (if (a < b) then b else a)))) = (0 : Int))) else false) true then (bif eqb (bif true then (decide ((ofE (545259519 : UInt32)) = (0 : Int))) else false) true then (bif eqb (bif true then (!(subB (ofV (nextW bits (bif false then (if (b < a) then b else a) else (if (a < b) then b else a)))) (ofV (nextW bits (bif true then (if (b < a) then b else a) else (if (a < b) then b else a)))))) else false) true then (bif eqb (bif true then (!(subB (ofV (545259519 : UInt32)) (ofV (nextW bits (bif false then (if (b < a) then b else a) else (if (a < b) then b else a)))))) else false) true then (true)
                else (false))
              else (false))
            else (false))
          else (false))
        else (false))
      else (false))) := by kernel_rfl
theorem next_ok {b s : UInt32} (h : okP b.toNat) : okP (nextW b s).toNat ∧ uV (ofV (nextW b s)) = flN (nextT (tgtN b.toNat) (clampN s.toNat)) := by
  have e := nextW_val (s := s) h
  have ok : okP (nextW b s).toNat := by
    rw [e]
    exact ok_bits (nextT_pos _ _) (nextT_lt _ _)
  refine ⟨ok, ?_⟩
  rw [ofV_val ok, e, tgt_bits (nextT_pos _ _)]
theorem law04_TargetSlow_end (bits x y : UInt32) (h : okP bits.toNat) (hxy : x.toNat ≤ y.toNat) :
    (bif eqb (decide ((0 : Int) = 0)) true then (bif eqb (bif true then (decide (ofE (nextW bits x) = (0 : Int))) else false) true then (bif eqb (bif true then (decide (ofE (nextW bits y) = (0 : Int))) else false) true then (bif eqb (bif true then (decide (ofE (545259519 : UInt32) = (0 : Int))) else false) true then (bif eqb (bif true then (!(subB (ofV (nextW bits y)) (ofV (nextW bits x)))) else false) true then (bif eqb (bif true then (!(subB (ofV (545259519 : UInt32)) (ofV (nextW bits y)))) else false) true then (true)
                else (false))
              else (false))
            else (false))
          else (false))
        else (false))
      else (false)) = true := by
  have hx := next_ok (s := x) h
  have hy := next_ok (s := y) h
  have h1 := flN_mono (nextT_mono (tgtN bits.toNat) (clamp_mono hxy))
  have h2 : flN (nextT (tgtN bits.toNat) (clampN y.toNat)) ≤ limT := Nat.le_trans (flN_le _) (nextT_le _ _)
  rw [(ofE_iff _).2 hx.1, (ofE_iff _).2 hy.1, (ofE_iff _).2 lim_ok', subB_eq, subB_eq, hx.2, hy.2, lim_val, decide_eq_false (p := flN (nextT (tgtN bits.toNat) (clampN y.toNat)) < flN (nextT (tgtN bits.toNat) (clampN x.toNat))) (by omega), decide_eq_false (p := limT < flN (nextT (tgtN bits.toNat) (clampN y.toNat))) (by omega)]
  rfl
theorem law04_TargetSlow_spec (bits a b : UInt32) : law04_TargetSlow bits a b = true := by
  rw [law04_TargetSlow]
  by_cases h : okP bits.toNat
  · rw [(ofE_iff _).2 h]
    have e1 : (bif true then (if (b < a) then b else a) else (if (a < b) then b else a)) = if b < a then b else a := rfl
    have e2 : (bif false then (if (b < a) then b else a) else (if (a < b) then b else a)) = if a < b then b else a := rfl
    rw [e1, e2]
    refine law04_TargetSlow_end bits _ _ h ?_
    by_cases c : b < a
    · have c' : ¬ a < b := by rw [UInt32.lt_iff_toNat_lt] at *; omega
      rw [if_pos c, if_neg c']
      rw [UInt32.lt_iff_toNat_lt] at c; omega
    · rw [if_neg c]
      by_cases d : a < b
      · rw [if_pos d]; rw [UInt32.lt_iff_toNat_lt] at d; omega
      · rw [if_neg d]; exact Nat.le_refl _
  · have e0 : ofE bits ≠ 0 := fun e => h ((ofE_iff bits).1 e)
    rw [decide_eq_false e0]
    simp [eqb]

end
end Go.Proofs.Ytepcjobghbanmaa.M

namespace Go.Proofs.Ytepcjobghbanmaa.M
open Go
noncomputable section
set_option maxRecDepth 100000
set_option maxHeartbeats 0
noncomputable def law04_TargetSlow_T : Tbl := [(47, [], target_Next_c), (46, [], law04_lives_c), (40, [], target_Of_c), (35, [], ref03_Less_c)]
noncomputable def law04_TargetSlow_C : CfgW := mkC Try.prog noG law04_TargetSlow_T 84 0 false
def law04_TargetSlow_lv : Nat → List Nat := fun i => []
noncomputable abbrev law04_TargetSlow_b : Code := Try.f13.body.getD .skip
noncomputable abbrev law04_TargetSlow_r : List ResultVar := Try.f13.results.toList
def law04_TargetSlow_hs : List Nat := []

def law04_TargetSlow_enc (r : Bool) : CallOut := ⟨.pv (.sc .b r), [], true, []⟩
theorem law04_TargetSlow_e (bits : UInt32) (a : UInt32) (b : UInt32) (Q : CallOut → Prop) : evalFnP law04_TargetSlow_C law04_TargetSlow_lv law04_TargetSlow_r law04_TargetSlow_hs law04_TargetSlow_b [.pv (.sc .u32 bits), .pv (.sc .u32 a), .pv (.sc .u32 b)] [] Q =
    (condP (!(decide ((ofE bits) = (0 : Int)))) (condP (eqb (decide ((ofE bits) = (ofE bits))) true) (Q (law04_TargetSlow_enc true)) (Q (law04_TargetSlow_enc false))) (condP (eqb (decide ((ofE bits) = (0 : Int))) true) (condP (eqb (bif true then (decide ((ofE (nextW bits (bif true then (if (b < a) then b else a) else (if (a < b) then b else a)))) = (0 : Int))) else false) true) (condP (eqb (bif true then (decide ((ofE (nextW bits (bif false then (if (b < a) then b else a) else (if (a < b) then b else a)))) = (0 : Int))) else false) true) (condP (eqb (bif true then (decide ((ofE (545259519 : UInt32)) = (0 : Int))) else false) true) (condP (eqb (bif true then (!(subB (ofV (nextW bits (bif false then (if (b < a) then b else a) else (if (a < b) then b else a)))) (ofV (nextW bits (bif true then (if (b < a) then b else a) else (if (a < b) then b else a)))))) else false) true) (condP (eqb (bif true then (!(subB (ofV (545259519 : UInt32)) (ofV (nextW bits (bif false then (if (b < a) then b else a) else (if (a < b) then b else a)))))) else false) true) (Q (law04_TargetSlow_enc true)) (Q (law04_TargetSlow_enc false))) (Q (law04_TargetSlow_enc false))) (Q (law04_TargetSlow_enc false))) (Q (law04_TargetSlow_enc false))) (Q (law04_TargetSlow_enc false))) (Q (law04_TargetSlow_enc false)))) := by kernel_rfl
theorem law04_TargetSlow_w (bits : UInt32) (a : UInt32) (b : UInt32) {Q : CallOut → Prop} (h : Q (law04_TargetSlow_enc (law04_TargetSlow bits a b))) : evalFnP law04_TargetSlow_C law04_TargetSlow_lv law04_TargetSlow_r law04_TargetSlow_hs law04_TargetSlow_b [.pv (.sc .u32 bits), .pv (.sc .u32 a), .pv (.sc .u32 b)] [] Q :=
  Eq.mpr (law04_TargetSlow_e bits a b Q) (have h := Eq.mp (congrArg (fun r => Q (law04_TargetSlow_enc r)) (law04_TargetSlow_q bits a b)) h; cond_ok2 (Q := fun r => Q (law04_TargetSlow_enc r)) h (fun h => cond_ok2 (Q := fun r => Q (law04_TargetSlow_enc r)) h (fun h => h) (fun h => h)) (fun h => cond_ok2 (Q := fun r => Q (law04_TargetSlow_enc r)) h (fun h => cond_ok2 (Q := fun r => Q (law04_TargetSlow_enc r)) h (fun h => cond_ok2 (Q := fun r => Q (law04_TargetSlow_enc r)) h (fun h => cond_ok2 (Q := fun r => Q (law04_TargetSlow_enc r)) h (fun h => cond_ok2 (Q := fun r => Q (law04_TargetSlow_enc r)) h (fun h => cond_ok2 (Q := fun r => Q (law04_TargetSlow_enc r)) h (fun h => h) (fun h => h)) (fun h => h)) (fun h => h)) (fun h => h)) (fun h => h)) (fun h => h)))
def law04_TargetSlow_c : Ans
  | [.pv (.sc .u32 bits), .pv (.sc .u32 a), .pv (.sc .u32 b)], [] => some (none, law04_TargetSlow_enc (true))
  | _, _ => none
theorem law04_TargetSlow_tok : TblOK Try.prog noG law04_TargetSlow_T := .cons ⟨by kernel_rfl, target_Next_ok⟩ (.cons ⟨by kernel_rfl, law04_lives_ok⟩ (.cons ⟨by kernel_rfl, target_Of_ok⟩ (.cons ⟨by kernel_rfl, ref03_Less_ok⟩ (.nil))))
theorem law04_TargetSlow_ok : FnOK Try.prog noG 13 (unW law04_TargetSlow_c) := by
  refine FnOK.ofC (T := law04_TargetSlow_T) (nt := 84) (np := 0) (nf := false) (hs := law04_TargetSlow_hs) (fn := Try.f13) (body := law04_TargetSlow_b) law04_TargetSlow_tok (by kernel_rfl) (by kernel_rfl) (by kernel_rfl) (by kernel_rfl) (c := law04_TargetSlow_c) (lv := law04_TargetSlow_lv) ?_
  intro xs mem p out h hp
  unfold law04_TargetSlow_c at h
  split at h
  · cases h
    exact law04_TargetSlow_w _ _ _ (congrArg law04_TargetSlow_enc (law04_TargetSlow_spec _ _ _))
  · cases h
end
end Go.Proofs.Ytepcjobghbanmaa.M

namespace Go.Proofs.Ytepcjobghbanmaa
open Go Go.ChangeShapes Go.WideShapes Go.ChangeAt Go.RowKit
open Go.Proofs.Ytepcjobghbanmaa
theorem law04_TargetSlow_own : ownKnob Try.prog.godebug = none := by kernel_rfl
theorem law04_TargetSlow_law : ∀ ys : List M.PV, M.FitL [.sc .u32, .sc .u32, .sc .u32] ys → ∃ p out, M.law04_TargetSlow_c (ys.map .pv) [] = some (p, out) ∧ p.h ∧ out.val = .pv (.sc .b true) := by
  rintro ys ⟨_, _, rfl, ⟨x0, rfl, hx0⟩, ⟨_, _, rfl, ⟨x1, rfl, hx1⟩, ⟨_, _, rfl, ⟨x2, rfl, hx2⟩, rfl⟩⟩⟩
  exact ⟨_, _, rfl, trivial, rfl⟩
set_option maxRecDepth 100000 in
theorem law04_TargetSlow_lifted (os : Os) (started : os.Started) (H : Type) (enc : TypeId × Value → H) :
    ReturnsInHanded {} Try.checked os 13 .any (Rows.targetSlowSpec.pre6 enc Try.prog Try.f13 [] false)
      (Rows.targetSlowSpec.post enc Try.prog Try.f13 false true false false) := by
  refine returnsInHanded_of_change_sized (C := Try.checked) law04_TargetSlow_own started (by kernel_rfl) (by kernel_rfl)
    (ChangeSpec.witness6 (enc := enc) (C := Try.checked) (os := os) false ⟨#[], #[.int .u32 0, .int .u32 0, .int .u32 0], []⟩ 8 (by kernel_rfl) (by kernel_rfl) (by kernel_rfl) (by kernel_rfl)) ?_
  intro W base args ds gs before hval hW _ hsz _
  exact M.law_contract (ss := [.sc .u32, .sc .u32, .sc .u32]) (G := M.noG) (c := M.law04_TargetSlow_c) (tb := 4) rfl (fun ds h => by
      match ds, h with
      | [d0, d1, d2], _ => rfl) (by kernel_rfl) (by kernel_rfl) (by kernel_rfl) (by kernel_rfl) (by kernel_rfl) M.law04_TargetSlow_ok law04_TargetSlow_law hval hW hsz M.globOK_none
theorem targetSlow_row : Rows.TargetSlowSaid :=
  OpenClaim.holds_of_wide 13 Try.f13 rfl rfl rfl rfl rfl rfl rfl ⟨rfl, rfl, rfl, rfl, rfl⟩ rfl rfl rfl rfl rfl (by kernel_rfl) (by kernel_rfl) (by kernel_rfl)
    (of_decide_eq_true (by kernel_rfl)) (by unfold Func.isWrapper; first | (rw [if_pos (by decide +kernel)]; kernel_rfl) | (rw [if_neg (by decide +kernel)]; exact ⟨rfl, rfl⟩))
    (fun os started H enc _ => law04_TargetSlow_lifted os started H enc)
#print axioms targetSlow_row
end Go.Proofs.Ytepcjobghbanmaa
