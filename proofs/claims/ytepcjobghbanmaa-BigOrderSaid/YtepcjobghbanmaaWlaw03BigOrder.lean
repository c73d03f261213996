/- The statement of BigOrder: for every input the law returns true, and each argument reads behind the call as it read before. No condition. -/
import Derived.KernelRfl
import Derived.Test.YtepcjobghbanmaaProg
import Derived.Test.YtepcjobghbanmaaRows
import Derived.WalkKit
import Derived.ProofKit
import Derived.Handy
import Derived.Lay
import Derived.SizedLaws
import Derived.SevenTiedAt
import Derived.Test.YtepcjobghbanmaaLd
import Derived.Test.YtepcjobghbanmaaFbig
import Derived.Test.YtepcjobghbanmaaFlaw03
import Derived.Test.YtepcjobghbanmaaSwords
import Derived.Test.YtepcjobghbanmaaSbigS
import Derived.Test.YtepcjobghbanmaaSbigB
import Derived.Test.YtepcjobghbanmaaScellS
import Derived.Test.YtepcjobghbanmaaLe
set_option linter.unusedVariables false
set_option linter.unusedSimpArgs false
set_option autoImplicit false
namespace Go.Proofs.Ytepcjobghbanmaa.M
open Go
noncomputable section
/-- moneyer/moneyerlaw03.BigOrder -/
def law03_BigOrder (a : Vector UInt64 4) (b : Vector UInt64 4) (h_2 : Vector UInt8 32) : Bool :=
  bif eqb (!(subB a b)) true then (bif eqb (decide ((decide ((Vector.toList a) = (Vector.toList b))) = (bif true then (!(subB b a)) else false))) true then (bif eqb (subB a b) true then (bif eqb (bif true then (!(bif true then (subB b a) else false)) else false) true then (bif eqb (bif true then (decide ((Vector.toList (subV (addV a b) b)) = (Vector.toList a))) else false) true then (bif eqb (bif true then (decide ((addB a b) = (subB (addV a b) b))) else false) true then (bif eqb (bif true then (decide ((Vector.toList (hashV (uV (hashU h_2)))) = (Vector.toList h_2))) else false) true then (true)
                else (false))
              else (false))
            else (false))
          else (false))
        else (bif eqb (bif true then (decide ((Vector.toList (subV (addV a b) b)) = (Vector.toList a))) else false) true then (bif eqb (bif true then (decide ((addB a b) = (subB (addV a b) b))) else false) true then (bif eqb (bif true then (decide ((Vector.toList (hashV (uV (hashU h_2)))) = (Vector.toList h_2))) else false) true then (true)
              else (false))
            else (false))
          else (false)))
      else (false))
    else (bif eqb (decide ((decide ((Vector.toList a) = (Vector.toList b))) = false)) true then (bif eqb (subB a b) true then (bif eqb (bif true then (!(bif true then (subB b a) else false)) else false) true then (bif eqb (bif true then (decide ((Vector.toList (subV (addV a b) b)) = (Vector.toList a))) else false) true then (bif eqb (bif true then (decide ((addB a b) = (subB (addV a b) b))) else false) true then (bif eqb (bif true then (decide ((Vector.toList (hashV (uV (hashU h_2)))) = (Vector.toList h_2))) else false) true then (true)
                else (false))
              else (false))
            else (false))
          else (false))
        else (bif eqb (bif true then (decide ((Vector.toList (subV (addV a b) b)) = (Vector.toList a))) else false) true then (bif eqb (bif true then (decide ((addB a b) = (subB (addV a b) b))) else false) true then (bif eqb (bif true then (decide ((Vector.toList (hashV (uV (hashU h_2)))) = (Vector.toList h_2))) else false) true then (true)
              else (false))
            else (false))
          else (false)))
      else (false))
theorem law03_BigOrder_q (a : Vector UInt64 4) (b : Vector UInt64 4) (h_2 : Vector UInt8 32) : law03_BigOrder a b h_2 = (bif eqb (!(subB a b)) true then (bif eqb (decide ((decide ((Vector.toList a) = (Vector.toList b))) = (bif true then (!(subB b a)) else false))) true then (bif eqb (subB a b) true then (bif eqb (bif true then (!(bif true then (subB b a) else false)) else false) true then (bif eqb (bif true then (decide ((Vector.toList (subV (addV a b) b)) = (Vector.toList a))) else false) true then (bif eqb (bif true then (decide ((addB a b) = (subB (addV a b) b))) else false) true then (bif eqb (bif true then (decide ((Vector.toList (hashV (uV (hashU h_2)))) = (Vector.toList h_2))) else false) true then (true)
                else (false))
              else (false))
            else (false))
          else (false))
        else (bif eqb (bif true then (decide ((Vector.toList (subV (addV a b) b)) = (Vector.toList a))) else false) true then (bif eqb (bif true then (decide ((addB a b) = (subB (addV a b) b))) else false) true then (bif eqb (bif true then (decide ((Vector.toList (hashV (uV (hashU h_2)))) = (Vector.toList h_2))) else false) true then (true)
              else (false))
            else (false))
          else (false)))
      else (false))
    else (bif eqb (decide ((decide ((Vector.toList a) = (Vector.toList b))) = false)) true then (bif eqb (subB a b) true then (bif eqb (bif true then (!(bif true then (subB b a) else false)) else false) true then (bif eqb (bif true then (decide ((Vector.toList (subV (addV a b) b)) = (Vector.toList a))) else false) true then (bif eqb (bif true then (decide ((addB a b) = (subB (addV a b) b))) else false) true then (bif eqb (bif true then (decide ((Vector.toList (hashV (uV (hashU h_2)))) = (Vector.toList h_2))) else false) true then (true)
                else (false))
              else (false))
            else (false))
          else (false))
        else (bif eqb (bif true then (decide ((Vector.toList (subV (addV a b) b)) = (Vector.toList a))) else false) true then (bif eqb (bif true then (decide ((addB a b) = (subB (addV a b) b))) else false) true then (bif eqb (bif true then (decide ((Vector.toList (hashV (uV (hashU h_2)))) = (Vector.toList h_2))) else false) true then (true)
              else (false))
            else (false))
          else (false)))
      else (false))) := by kernel_rfl
theorem law03_BigOrder_spec (a b : Vector UInt64 4) (h : Vector UInt8 32) : law03_BigOrder a b h = true := by
  have hA := uV_lt a
  have hB := uV_lt b
  have d : subV (addV a b) b = a := by
    apply uV_inj
    rw [subV_val, addV_val]
    omega
  have e : addB a b = subB (addV a b) b := by
    rw [addB_eq, subB_eq, addV_val, ← decide_not, decide_eq_decide]
    omega
  have hh : hashV (uV (hashU h)) = h := by rw [hashU_val, hashV_num]
  have ab : (Vector.toList a = Vector.toList b) ↔ uV a = uV b := by
    constructor
    · intro q
      rw [Vector.toList_inj.1 q]
    · intro q
      rw [uV_inj q]
  have pab : subB a b = decide (uV a < uV b) := subB_eq a b
  have pba : subB b a = decide (uV b < uV a) := subB_eq b a
  rw [law03_BigOrder, d, ← e, hh]
  rcases Nat.lt_trichotomy (uV a) (uV b) with c | c | c
  · have h1 : decide (Vector.toList a = Vector.toList b) = false := decide_eq_false (fun q => by have := ab.1 q; omega)
    have h2 : subB a b = true := by rw [pab]; exact decide_eq_true c
    have h3 : subB b a = false := by rw [pba]; exact decide_eq_false (by omega)
    rw [h1, h2, h3]
    simp [eqb]
  · have h1 : decide (Vector.toList a = Vector.toList b) = true := decide_eq_true (ab.2 c)
    have h2 : subB a b = false := by rw [pab]; exact decide_eq_false (by omega)
    have h3 : subB b a = false := by rw [pba]; exact decide_eq_false (by omega)
    rw [h1, h2, h3]
    simp [eqb]
  · have h1 : decide (Vector.toList a = Vector.toList b) = false := decide_eq_false (fun q => by have := ab.1 q; omega)
    have h2 : subB a b = false := by rw [pab]; exact decide_eq_false (by omega)
    have h3 : subB b a = true := by rw [pba]; exact decide_eq_true c
    rw [h1, h2, h3]
    simp [eqb]

end
end Go.Proofs.Ytepcjobghbanmaa.M

namespace Go.Proofs.Ytepcjobghbanmaa.M
open Go
noncomputable section
set_option maxRecDepth 100000
set_option maxHeartbeats 0
noncomputable def law03_BigOrder_T : Tbl := [(20, [], big_Add_c), (22, [], big_Sub_c), (34, [], big_Less_c), (30, [], big_OfHash_c), (32, [], big_ToHash_c), (19, [], law03_lives_c)]
noncomputable def law03_BigOrder_C : CfgW := mkC Try.prog noG law03_BigOrder_T 68 0 false
def law03_BigOrder_lv : Nat → List Nat := fun i => []
noncomputable abbrev law03_BigOrder_b : Code := Try.f8.body.getD .skip
noncomputable abbrev law03_BigOrder_r : List ResultVar := Try.f8.results.toList
def law03_BigOrder_hs : List Nat := []

def law03_BigOrder_enc (r : Bool) : CallOut := ⟨.pv (.sc .b r), [], true, []⟩
theorem law03_BigOrder_e (a : Vector UInt64 4) (b : Vector UInt64 4) (h_2 : Vector UInt8 32) (Q : CallOut → Prop) : evalFnP law03_BigOrder_C law03_BigOrder_lv law03_BigOrder_r law03_BigOrder_hs law03_BigOrder_b [.pv (.arr .u64 4 a), .pv (.arr .u64 4 b), .pv (.arr .u8 32 h_2)] [] Q =
    (condP (eqb (!(subB a b)) true) (condP (eqb (decide ((decide ((Vector.toList a) = (Vector.toList b))) = (bif true then (!(subB b a)) else false))) true) (condP (eqb (subB a b) true) (condP (eqb (bif true then (!(bif true then (subB b a) else false)) else false) true) (condP (eqb (bif true then (decide ((Vector.toList (subV (addV a b) b)) = (Vector.toList a))) else false) true) (condP (eqb (bif true then (decide ((addB a b) = (subB (addV a b) b))) else false) true) (condP (eqb (bif true then (decide ((Vector.toList (hashV (uV (hashU h_2)))) = (Vector.toList h_2))) else false) true) (Q (law03_BigOrder_enc true)) (Q (law03_BigOrder_enc false))) (Q (law03_BigOrder_enc false))) (Q (law03_BigOrder_enc false))) (Q (law03_BigOrder_enc false))) (condP (eqb (bif true then (decide ((Vector.toList (subV (addV a b) b)) = (Vector.toList a))) else false) true) (condP (eqb (bif true then (decide ((addB a b) = (subB (addV a b) b))) else false) true) (condP (eqb (bif true then (decide ((Vector.toList (hashV (uV (hashU h_2)))) = (Vector.toList h_2))) else false) true) (Q (law03_BigOrder_enc true)) (Q (law03_BigOrder_enc false))) (Q (law03_BigOrder_enc false))) (Q (law03_BigOrder_enc false)))) (Q (law03_BigOrder_enc false))) (condP (eqb (decide ((decide ((Vector.toList a) = (Vector.toList b))) = false)) true) (condP (eqb (subB a b) true) (condP (eqb (bif true then (!(bif true then (subB b a) else false)) else false) true) (condP (eqb (bif true then (decide ((Vector.toList (subV (addV a b) b)) = (Vector.toList a))) else false) true) (condP (eqb (bif true then (decide ((addB a b) = (subB (addV a b) b))) else false) true) (condP (eqb (bif true then (decide ((Vector.toList (hashV (uV (hashU h_2)))) = (Vector.toList h_2))) else false) true) (Q (law03_BigOrder_enc true)) (Q (law03_BigOrder_enc false))) (Q (law03_BigOrder_enc false))) (Q (law03_BigOrder_enc false))) (Q (law03_BigOrder_enc false))) (condP (eqb (bif true then (decide ((Vector.toList (subV (addV a b) b)) = (Vector.toList a))) else false) true) (condP (eqb (bif true then (decide ((addB a b) = (subB (addV a b) b))) else false) true) (condP (eqb (bif true then (decide ((Vector.toList (hashV (uV (hashU h_2)))) = (Vector.toList h_2))) else false) true) (Q (law03_BigOrder_enc true)) (Q (law03_BigOrder_enc false))) (Q (law03_BigOrder_enc false))) (Q (law03_BigOrder_enc false)))) (Q (law03_BigOrder_enc false)))) := by kernel_rfl
theorem law03_BigOrder_w (a : Vector UInt64 4) (b : Vector UInt64 4) (h_2 : Vector UInt8 32) {Q : CallOut → Prop} (h : Q (law03_BigOrder_enc (law03_BigOrder a b h_2))) : evalFnP law03_BigOrder_C law03_BigOrder_lv law03_BigOrder_r law03_BigOrder_hs law03_BigOrder_b [.pv (.arr .u64 4 a), .pv (.arr .u64 4 b), .pv (.arr .u8 32 h_2)] [] Q :=
  Eq.mpr (law03_BigOrder_e a b h_2 Q) (have h := Eq.mp (congrArg (fun r => Q (law03_BigOrder_enc r)) (law03_BigOrder_q a b h_2)) h; cond_ok2 (Q := fun r => Q (law03_BigOrder_enc r)) h (fun h => cond_ok2 (Q := fun r => Q (law03_BigOrder_enc r)) h (fun h => cond_ok2 (Q := fun r => Q (law03_BigOrder_enc r)) h (fun h => cond_ok2 (Q := fun r => Q (law03_BigOrder_enc r)) h (fun h => cond_ok2 (Q := fun r => Q (law03_BigOrder_enc r)) h (fun h => cond_ok2 (Q := fun r => Q (law03_BigOrder_enc r)) h (fun h => cond_ok2 (Q := fun r => Q (law03_BigOrder_enc r)) h (fun h => h) (fun h => h)) (fun h => h)) (fun h => h)) (fun h => h)) (fun h => cond_ok2 (Q := fun r => Q (law03_BigOrder_enc r)) h (fun h => cond_ok2 (Q := fun r => Q (law03_BigOrder_enc r)) h (fun h => cond_ok2 (Q := fun r => Q (law03_BigOrder_enc r)) h (fun h => h) (fun h => h)) (fun h => h)) (fun h => h))) (fun h => h)) (fun h => cond_ok2 (Q := fun r => Q (law03_BigOrder_enc r)) h (fun h => cond_ok2 (Q := fun r => Q (law03_BigOrder_enc r)) h (fun h => cond_ok2 (Q := fun r => Q (law03_BigOrder_enc r)) h (fun h => cond_ok2 (Q := fun r => Q (law03_BigOrder_enc r)) h (fun h => cond_ok2 (Q := fun r => Q (law03_BigOrder_enc r)) h (fun h => cond_ok2 (Q := fun r => Q (law03_BigOrder_enc r)) h (fun h => h) (fun h => h)) (fun h => h)) (fun h => h)) (fun h => h)) (fun h => cond_ok2 (Q := fun r => Q (law03_BigOrder_enc r)) h (fun h => cond_ok2 (Q := fun r => Q (law03_BigOrder_enc r)) h (fun h => cond_ok2 (Q := fun r => Q (law03_BigOrder_enc r)) h (fun h => h) (fun h => h)) (fun h => h)) (fun h => h))) (fun h => h)))
def law03_BigOrder_c : Ans
  | [.pv (.arr .u64 4 a), .pv (.arr .u64 4 b), .pv (.arr .u8 32 h_2)], [] => some (none, law03_BigOrder_enc (true))
  | _, _ => none
theorem law03_BigOrder_tok : TblOK Try.prog noG law03_BigOrder_T := .cons ⟨by kernel_rfl, big_Add_ok⟩ (.cons ⟨by kernel_rfl, big_Sub_ok⟩ (.cons ⟨by kernel_rfl, big_Less_ok⟩ (.cons ⟨by kernel_rfl, big_OfHash_ok⟩ (.cons ⟨by kernel_rfl, big_ToHash_ok⟩ (.cons ⟨by kernel_rfl, law03_lives_ok⟩ (.nil))))))
theorem law03_BigOrder_ok : FnOK Try.prog noG 8 (unW law03_BigOrder_c) := by
  refine FnOK.ofC (T := law03_BigOrder_T) (nt := 68) (np := 0) (nf := false) (hs := law03_BigOrder_hs) (fn := Try.f8) (body := law03_BigOrder_b) law03_BigOrder_tok (by kernel_rfl) (by kernel_rfl) (by kernel_rfl) (by kernel_rfl) (c := law03_BigOrder_c) (lv := law03_BigOrder_lv) ?_
  intro xs mem p out h hp
  unfold law03_BigOrder_c at h
  split at h
  · cases h
    exact law03_BigOrder_w _ _ _ (congrArg law03_BigOrder_enc (law03_BigOrder_spec _ _ _))
  · cases h
end
end Go.Proofs.Ytepcjobghbanmaa.M

namespace Go.Proofs.Ytepcjobghbanmaa
open Go Go.ChangeShapes Go.WideShapes Go.ChangeAt Go.RowKit
open Go.Proofs.Ytepcjobghbanmaa
theorem law03_BigOrder_own : ownKnob Try.prog.godebug = none := by kernel_rfl
theorem law03_BigOrder_law : ∀ ys : List M.PV, M.FitL [.arr .u64 4, .arr .u64 4, .arr .u8 32] ys → ∃ p out, M.law03_BigOrder_c (ys.map .pv) [] = some (p, out) ∧ p.h ∧ out.val = .pv (.sc .b true) := by
  rintro ys ⟨_, _, rfl, ⟨x0, rfl, hx0⟩, ⟨_, _, rfl, ⟨x1, rfl, hx1⟩, ⟨_, _, rfl, ⟨x2, rfl, hx2⟩, rfl⟩⟩⟩
  exact ⟨_, _, rfl, trivial, rfl⟩
set_option maxRecDepth 100000 in
theorem law03_BigOrder_lifted (os : Os) (started : os.Started) (H : Type) (enc : TypeId × Value → H) :
    ReturnsInHanded {} Try.checked os 8 .any (Rows.bigOrderSpec.pre6 enc Try.prog Try.f8 [] false)
      (Rows.bigOrderSpec.post enc Try.prog Try.f8 false true false false) := by
  refine returnsInHanded_of_change_sized (C := Try.checked) law03_BigOrder_own started (by kernel_rfl) (by kernel_rfl)
    (ChangeSpec.witness6 (enc := enc) (C := Try.checked) (os := os) false ⟨#[], #[.agg #[.int .u64 0, .int .u64 0, .int .u64 0, .int .u64 0], .agg #[.int .u64 0, .int .u64 0, .int .u64 0, .int .u64 0], .agg (Array.replicate 32 (.int .u8 0))], []⟩ 8 (by kernel_rfl) (by kernel_rfl) (by kernel_rfl) (by kernel_rfl)) ?_
  intro W base args ds gs before hval hW _ hsz _
  exact M.law_contract (ss := [.arr .u64 4, .arr .u64 4, .arr .u8 32]) (G := M.noG) (c := M.law03_BigOrder_c) (tb := 4) rfl (fun ds h => by
      match ds, h with
      | [d0, d1, d2], _ => rfl) (by kernel_rfl) (by kernel_rfl) (by kernel_rfl) (by kernel_rfl) (by kernel_rfl) M.law03_BigOrder_ok law03_BigOrder_law hval hW hsz M.globOK_none
theorem bigOrder_row : Rows.BigOrderSaid :=
  OpenClaim.holds_of_wide 8 Try.f8 rfl rfl rfl rfl rfl rfl rfl ⟨rfl, rfl, rfl, rfl, rfl⟩ rfl rfl rfl rfl rfl (by kernel_rfl) (by kernel_rfl) (by kernel_rfl)
    (of_decide_eq_true (by kernel_rfl)) (by unfold Func.isWrapper; first | (rw [if_pos (by decide +kernel)]; kernel_rfl) | (rw [if_neg (by decide +kernel)]; exact ⟨rfl, rfl⟩))
    (fun os started H enc _ => law03_BigOrder_lifted os started H enc)
#print axioms bigOrder_row
end Go.Proofs.Ytepcjobghbanmaa
