/- The statement of CellTwo: for every input the law returns true, and each argument reads behind the call as it read before. No condition. -/
import Derived.KernelRfl
import Derived.Test.YtpgpagmnhikpiaaProg
import Derived.Test.YtpgpagmnhikpiaaRows
import Derived.WalkKit
import Derived.ProofKit
import Derived.Handy
import Derived.Lay
import Derived.SizedLaws
import Derived.SevenTiedAt
import Derived.Test.YtpgpagmnhikpiaaLd
import Derived.Test.YtpgpagmnhikpiaaFcell
import Derived.Test.YtpgpagmnhikpiaaFref12
import Derived.Test.YtpgpagmnhikpiaaFlaw12
import Derived.Test.YtpgpagmnhikpiaaSwords
import Derived.Test.YtpgpagmnhikpiaaScellS
set_option linter.unusedVariables false
set_option linter.unusedSimpArgs false
set_option autoImplicit false
namespace Go.Proofs.Ytpgpagmnhikpiaa.M
open Go
noncomputable section
/-- moneyer/moneyerlaw12.CellTwo -/
def law12_CellTwo (op : UInt8) (a : Int) (b : Int) : Option (Bool) :=
  if (I64 a) ∧ (I64 b) then
    bif eqb (decide ((Prod.fst (twoS op a b)) = (Prod.fst (twoS op a b)))) true then (bif eqb (bif true then (decide ((Prod.snd (twoS op a b)) = (Prod.snd (twoS op a b)))) else false) true then (some true)
        else (some false))
      else (some false)
  else none
theorem law12_CellTwo_q (op : UInt8) (a : Int) (b : Int) : law12_CellTwo op a b = (if (I64 a) ∧ (I64 b) then
    bif eqb (decide ((Prod.fst (twoS op a b)) = (Prod.fst (twoS op a b)))) true then (bif eqb (bif true then (decide ((Prod.snd (twoS op a b)) = (Prod.snd (twoS op a b)))) else false) true then (some true)
        else (some false))
      else (some false)
  else none) := by kernel_rfl
theorem law12_CellTwo_spec (op : UInt8) (a b : Int) (hp : I64 a ∧ I64 b) : law12_CellTwo op a b = some true := by
  rw [law12_CellTwo_q, if_pos hp]
  simp [eqb_t]

end
end Go.Proofs.Ytpgpagmnhikpiaa.M

namespace Go.Proofs.Ytpgpagmnhikpiaa.M
open Go
noncomputable section
set_option maxRecDepth 100000
noncomputable def law12_CellTwo_T : Tbl := [(9, [], cell_Two_c), (10, [], ref12_Two_c), (11, [], law12_lives_c)]
noncomputable def law12_CellTwo_C : CfgW := mkC Try.prog noG law12_CellTwo_T 36 0 false
def law12_CellTwo_lv : Nat → List Nat := fun i => []
noncomputable abbrev law12_CellTwo_b : Code := Try.f3.body.getD .skip
noncomputable abbrev law12_CellTwo_r : List ResultVar := Try.f3.results.toList
def law12_CellTwo_hs : List Nat := []

def law12_CellTwo_enc (r : Bool) : CallOut := ⟨.pv (.sc .b r), [], true, []⟩
theorem law12_CellTwo_e (op : UInt8) (a : Int) (b : Int) (Q : CallOut → Prop) : evalFnP law12_CellTwo_C law12_CellTwo_lv law12_CellTwo_r law12_CellTwo_hs law12_CellTwo_b [.pv (.sc .u8 op), .pv (.sc .i a), .pv (.sc .i b)] [] Q =
    (((I64 a) ∧ (I64 b)) ∧ (((I64 a) ∧ (I64 b)) ∧ (condP (eqb (decide ((Prod.fst (twoS op a b)) = (Prod.fst (twoS op a b)))) true) (condP (eqb (bif true then (decide ((Prod.snd (twoS op a b)) = (Prod.snd (twoS op a b)))) else false) true) (Q (law12_CellTwo_enc true)) (Q (law12_CellTwo_enc false))) (Q (law12_CellTwo_enc false))))) := by kernel_rfl
theorem law12_CellTwo_w (op : UInt8) (a : Int) (b : Int) {r} {Q : CallOut → Prop} (h : law12_CellTwo op a b = some r) (hQ : Q (law12_CellTwo_enc r)) : evalFnP law12_CellTwo_C law12_CellTwo_lv law12_CellTwo_r law12_CellTwo_hs law12_CellTwo_b [.pv (.sc .u8 op), .pv (.sc .i a), .pv (.sc .i b)] [] Q :=
  Eq.mpr (law12_CellTwo_e op a b Q) (have h := (law12_CellTwo_q op a b).symm.trans h; ite_ok h fun hc0 h => ⟨hc0, cond_ok h (fun h => cond_ok h (fun h => ret_ok (Q := Q) (e := law12_CellTwo_enc) h hQ) (fun h => ret_ok (Q := Q) (e := law12_CellTwo_enc) h hQ)) (fun h => ret_ok (Q := Q) (e := law12_CellTwo_enc) h hQ)⟩)
def law12_CellTwo_c : Ans
  | [.pv (.sc .u8 op), .pv (.sc .i a), .pv (.sc .i b)], [] => some (some (I64 a ∧ I64 b), law12_CellTwo_enc (true))
  | _, _ => none
theorem law12_CellTwo_tok : TblOK Try.prog noG law12_CellTwo_T := .cons ⟨by kernel_rfl, cell_Two_ok⟩ (.cons ⟨by kernel_rfl, ref12_Two_ok⟩ (.cons ⟨by kernel_rfl, law12_lives_ok⟩ (.nil)))
theorem law12_CellTwo_ok : FnOK Try.prog noG 3 (unW law12_CellTwo_c) := by
  refine FnOK.ofC (T := law12_CellTwo_T) (nt := 36) (np := 0) (nf := false) (hs := law12_CellTwo_hs) (fn := Try.f3) (body := law12_CellTwo_b) law12_CellTwo_tok (by kernel_rfl) (by kernel_rfl) (by kernel_rfl) (by kernel_rfl) (c := law12_CellTwo_c) (lv := law12_CellTwo_lv) ?_
  intro xs mem p out h hp
  unfold law12_CellTwo_c at h
  split at h
  · cases h
    exact law12_CellTwo_w _ _ _ (law12_CellTwo_spec _ _ _ hp) rfl
  · cases h
end
end Go.Proofs.Ytpgpagmnhikpiaa.M

namespace Go.Proofs.Ytpgpagmnhikpiaa
open Go Go.ChangeShapes Go.WideShapes Go.ChangeAt Go.RowKit
open Go.Proofs.Ytpgpagmnhikpiaa
theorem law12_CellTwo_own : ownKnob Try.prog.godebug = none := by kernel_rfl
theorem law12_CellTwo_law : ∀ ys : List M.PV, M.FitL [.sc .u8, .sc .i, .sc .i] ys → ∃ p out, M.law12_CellTwo_c (ys.map .pv) [] = some (p, out) ∧ p.h ∧ out.val = .pv (.sc .b true) := by
  rintro ys ⟨_, _, rfl, ⟨x0, rfl, hx0⟩, ⟨_, _, rfl, ⟨x1, rfl, hx1⟩, ⟨_, _, rfl, ⟨x2, rfl, hx2⟩, rfl⟩⟩⟩
  exact ⟨_, _, rfl, ⟨hx1, hx2⟩, rfl⟩
set_option maxRecDepth 100000 in
theorem law12_CellTwo_lifted (os : Os) (started : os.Started) (H : Type) (enc : TypeId × Value → H) :
    ReturnsInHanded {} Try.checked os 3 .any (Rows.cellTwoSpec.pre6 enc Try.prog Try.f3 [] false)
      (Rows.cellTwoSpec.post enc Try.prog Try.f3 false true false false) := by
  refine returnsInHanded_of_change_sized (C := Try.checked) law12_CellTwo_own started (by kernel_rfl) (by kernel_rfl)
    (ChangeSpec.witness6 (enc := enc) (C := Try.checked) (os := os) false ⟨#[], #[.int .u8 0, .int .i64 0, .int .i64 0], []⟩ 8 (by kernel_rfl) (by kernel_rfl) (by kernel_rfl) (by kernel_rfl)) ?_
  intro W base args ds gs before hval hW _ hsz _
  exact M.law_contract (ss := [.sc .u8, .sc .i, .sc .i]) (G := M.noG) (c := M.law12_CellTwo_c) (tb := 4) rfl (fun ds h => by
      match ds, h with
      | [d0, d1, d2], _ => rfl) (by kernel_rfl) (by kernel_rfl) (by kernel_rfl) (by kernel_rfl) (by kernel_rfl) M.law12_CellTwo_ok law12_CellTwo_law hval hW hsz M.globOK_none
theorem cellTwo_row : Rows.CellTwoSaid :=
  OpenClaim.holds_of_wide 3 Try.f3 rfl rfl rfl rfl rfl rfl rfl ⟨rfl, rfl, rfl, rfl, rfl⟩ rfl rfl rfl rfl rfl (by kernel_rfl) (by kernel_rfl) (by kernel_rfl)
    (of_decide_eq_true (by kernel_rfl)) (by unfold Func.isWrapper; first | (rw [if_pos (by decide +kernel)]; kernel_rfl) | (rw [if_neg (by decide +kernel)]; exact ⟨rfl, rfl⟩))
    (fun os started H enc _ => law12_CellTwo_lifted os started H enc)
#print axioms cellTwo_row
end Go.Proofs.Ytpgpagmnhikpiaa
