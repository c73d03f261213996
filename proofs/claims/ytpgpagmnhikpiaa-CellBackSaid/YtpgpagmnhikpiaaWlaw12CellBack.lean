/- The statement of CellBack: for every input the law returns true, and each argument reads behind the call as it read before. No condition. -/
import Derived.KernelRfl
import Derived.Test.YtpgpagmnhikpiaaProg
import Derived.Test.YtpgpagmnhikpiaaRows
import Derived.WalkKit
import Derived.ProofKit
import Derived.Handy
import Derived.Lay
import Derived.SizedLaws
import Derived.SevenTiedAt
import Derived.Test.YtpgpagmnhikpiaaLd
import Derived.Test.YtpgpagmnhikpiaaFcell
import Derived.Test.YtpgpagmnhikpiaaFref00
import Derived.Test.YtpgpagmnhikpiaaFlaw12
import Derived.Test.YtpgpagmnhikpiaaSwords
import Derived.Test.YtpgpagmnhikpiaaScellS
set_option linter.unusedVariables false
set_option linter.unusedSimpArgs false
set_option autoImplicit false
namespace Go.Proofs.Ytpgpagmnhikpiaa.M
open Go
noncomputable section
/-- moneyer/moneyerlaw12.CellBack -/
def law12_CellBack (n : Int) (b : List UInt8) : Option (Bool) :=
  if I64 n then
    bif eqb (!(decide ((Prod.snd (numOf (numB n))) = (0 : Int)))) false then (bif bif false then true else (!(decide ((Prod.fst (numOf (numB n))) = n))) then (some false)
        else (bif eqb (!(decide ((Prod.snd (numOf b)) = (0 : Int)))) false then (if I64 (Prod.fst (numOf b)) then
            if (List.length (numB (Prod.fst (numOf b)))) ≤ (1152921504606846976 : Nat) then
              bif eqb (bif false then true else (decide ((numB (Prod.fst (numOf b))) = b))) true then (some true)
                else (some false)
            else none
          else none)
          else (some true)))
      else (some false)
  else none
theorem law12_CellBack_q (n : Int) (b : List UInt8) : law12_CellBack n b = (if I64 n then
    bif eqb (!(decide ((Prod.snd (numOf (numB n))) = (0 : Int)))) false then (bif bif false then true else (!(decide ((Prod.fst (numOf (numB n))) = n))) then (some false)
        else (bif eqb (!(decide ((Prod.snd (numOf b)) = (0 : Int)))) false then (if I64 (Prod.fst (numOf b)) then
            if (List.length (numB (Prod.fst (numOf b)))) ≤ (1152921504606846976 : Nat) then
              bif eqb (bif false then true else (decide ((numB (Prod.fst (numOf b))) = b))) true then (some true)
                else (some false)
            else none
          else none)
          else (some true)))
      else (some false)
  else none) := by kernel_rfl
theorem law12_CellBack_spec (n : Int) (b : List UInt8) (hp : I64 n) : law12_CellBack n b = some true := by
  rw [law12_CellBack_q, if_pos hp, numOf_B hp]
  simp only [eqb_t, eqb_f, decide_true, Bool.not_true, Bool.not_false, cond_true, cond_false]
  by_cases h : b.length ≤ 8 ∧ numB (numV b) = b
  · have e : numOf b = (numV b, 0) := if_pos h
    rw [e]
    simp only [decide_true, Bool.not_true, Bool.not_false, cond_true]
    rw [if_pos (numV_I64 b h.1), h.2, if_pos (by omega), decide_eq_true rfl]
    rfl
  · have e : numOf b = (0, 5) := if_neg h
    rw [e]
    rfl

end
end Go.Proofs.Ytpgpagmnhikpiaa.M

namespace Go.Proofs.Ytpgpagmnhikpiaa.M
open Go
noncomputable section
set_option maxRecDepth 100000
noncomputable def law12_CellBack_T : Tbl := [(13, [], cell_Bytes_c), (12, [], cell_Number_c), (14, [], ref00_Same_c), (11, [], law12_lives_c)]
noncomputable def law12_CellBack_C : CfgW := mkC Try.prog noG law12_CellBack_T 38 0 false
def law12_CellBack_lv : Nat → List Nat := fun i => []
noncomputable abbrev law12_CellBack_b : Code := Try.f4.body.getD .skip
noncomputable abbrev law12_CellBack_r : List ResultVar := Try.f4.results.toList
def law12_CellBack_hs : List Nat := []

def law12_CellBack_enc (r : Bool) : CallOut := ⟨.pv (.sc .b r), [], true, []⟩
theorem law12_CellBack_e (n : Int) (b : List UInt8) (Q : CallOut → Prop) : evalFnP law12_CellBack_C law12_CellBack_lv law12_CellBack_r law12_CellBack_hs law12_CellBack_b [.pv (.sc .i n), .pv (.sl .u8 b)] [] Q =
    ((I64 n) ∧ (condP (eqb (!(decide ((Prod.snd (numOf (numB n))) = (0 : Int)))) false) (condP (bif false then true else (!(decide ((Prod.fst (numOf (numB n))) = n)))) (Q (law12_CellBack_enc false)) (condP (eqb (!(decide ((Prod.snd (numOf b)) = (0 : Int)))) false) ((I64 (Prod.fst (numOf b))) ∧ (((List.length (numB (Prod.fst (numOf b)))) ≤ (1152921504606846976 : Nat)) ∧ (condP (eqb (bif false then true else (decide ((numB (Prod.fst (numOf b))) = b))) true) (Q (law12_CellBack_enc true)) (Q (law12_CellBack_enc false))))) (Q (law12_CellBack_enc true)))) (Q (law12_CellBack_enc false)))) := by kernel_rfl
theorem law12_CellBack_w (n : Int) (b : List UInt8) {r} {Q : CallOut → Prop} (h : law12_CellBack n b = some r) (hQ : Q (law12_CellBack_enc r)) : evalFnP law12_CellBack_C law12_CellBack_lv law12_CellBack_r law12_CellBack_hs law12_CellBack_b [.pv (.sc .i n), .pv (.sl .u8 b)] [] Q :=
  Eq.mpr (law12_CellBack_e n b Q) (have h := (law12_CellBack_q n b).symm.trans h; ite_ok h fun hc0 h => cond_ok h (fun h => cond_ok h (fun h => ret_ok (Q := Q) (e := law12_CellBack_enc) h hQ) (fun h => cond_ok h (fun h => ite_ok h fun hc1 h => ite_ok h fun hc2 h => cond_ok h (fun h => ret_ok (Q := Q) (e := law12_CellBack_enc) h hQ) (fun h => ret_ok (Q := Q) (e := law12_CellBack_enc) h hQ)) (fun h => ret_ok (Q := Q) (e := law12_CellBack_enc) h hQ))) (fun h => ret_ok (Q := Q) (e := law12_CellBack_enc) h hQ))
def law12_CellBack_c : Ans
  | [.pv (.sc .i n), .pv (.sl .u8 b)], [] => some (some (I64 n), law12_CellBack_enc (true))
  | _, _ => none
theorem law12_CellBack_tok : TblOK Try.prog noG law12_CellBack_T := .cons ⟨by kernel_rfl, cell_Bytes_ok⟩ (.cons ⟨by kernel_rfl, cell_Number_ok⟩ (.cons ⟨by kernel_rfl, ref00_Same_ok⟩ (.cons ⟨by kernel_rfl, law12_lives_ok⟩ (.nil))))
theorem law12_CellBack_ok : FnOK Try.prog noG 4 (unW law12_CellBack_c) := by
  refine FnOK.ofC (T := law12_CellBack_T) (nt := 38) (np := 0) (nf := false) (hs := law12_CellBack_hs) (fn := Try.f4) (body := law12_CellBack_b) law12_CellBack_tok (by kernel_rfl) (by kernel_rfl) (by kernel_rfl) (by kernel_rfl) (c := law12_CellBack_c) (lv := law12_CellBack_lv) ?_
  intro xs mem p out h hp
  unfold law12_CellBack_c at h
  split at h
  · cases h
    exact law12_CellBack_w _ _ (law12_CellBack_spec _ _ hp) rfl
  · cases h
end
end Go.Proofs.Ytpgpagmnhikpiaa.M

namespace Go.Proofs.Ytpgpagmnhikpiaa
open Go Go.ChangeShapes Go.WideShapes Go.ChangeAt Go.RowKit
open Go.Proofs.Ytpgpagmnhikpiaa
theorem law12_CellBack_own : ownKnob Try.prog.godebug = none := by kernel_rfl
theorem law12_CellBack_law : ∀ ys : List M.PV, M.FitL [.sc .i, .sl .u8] ys → ∃ p out, M.law12_CellBack_c (ys.map .pv) [] = some (p, out) ∧ p.h ∧ out.val = .pv (.sc .b true) := by
  rintro ys ⟨_, _, rfl, ⟨x0, rfl, hx0⟩, ⟨_, _, rfl, ⟨x1, rfl, hx1, lx1⟩, rfl⟩⟩
  exact ⟨_, _, rfl, hx0, rfl⟩
set_option maxRecDepth 100000 in
theorem law12_CellBack_lifted (os : Os) (started : os.Started) (H : Type) (enc : TypeId × Value → H) :
    ReturnsInHanded {} Try.checked os 4 .any (Rows.cellBackSpec.pre6 enc Try.prog Try.f4 [] false)
      (Rows.cellBackSpec.post enc Try.prog Try.f4 false true false false) := by
  refine returnsInHanded_of_change_sized (C := Try.checked) law12_CellBack_own started (by kernel_rfl) (by kernel_rfl)
    (ChangeSpec.witness6 (enc := enc) (C := Try.checked) (os := os) false ⟨#[], #[.int .i64 0, .slice none 0 0], []⟩ 8 (by kernel_rfl) (by kernel_rfl) (by kernel_rfl) (by kernel_rfl)) ?_
  intro W base args ds gs before hval hW _ hsz _
  exact M.law_contract (ss := [.sc .i, .sl .u8]) (G := M.noG) (c := M.law12_CellBack_c) (tb := 4) rfl (fun ds h => by
      match ds, h with
      | [d0, d1], _ => rfl) (by kernel_rfl) (by kernel_rfl) (by kernel_rfl) (by kernel_rfl) (by kernel_rfl) M.law12_CellBack_ok law12_CellBack_law hval hW hsz M.globOK_none
theorem cellBack_row : Rows.CellBackSaid :=
  OpenClaim.holds_of_wide 4 Try.f4 rfl rfl rfl rfl rfl rfl rfl ⟨rfl, rfl, rfl, rfl, rfl⟩ rfl rfl rfl rfl rfl (by kernel_rfl) (by kernel_rfl) (by kernel_rfl)
    (of_decide_eq_true (by kernel_rfl)) (by unfold Func.isWrapper; first | (rw [if_pos (by decide +kernel)]; kernel_rfl) | (rw [if_neg (by decide +kernel)]; exact ⟨rfl, rfl⟩))
    (fun os started H enc _ => law12_CellBack_lifted os started H enc)
#print axioms cellBack_row
end Go.Proofs.Ytpgpagmnhikpiaa
