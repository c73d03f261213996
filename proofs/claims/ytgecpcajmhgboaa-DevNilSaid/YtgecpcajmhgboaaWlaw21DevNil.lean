/- The statement of DevNil: for every input the law returns true, and each argument reads behind the call as it read before. No condition. -/
import Derived.KernelRfl
import Derived.Test.YtgecpcajmhgboaaProg
import Derived.Test.YtgecpcajmhgboaaRows
import Derived.WalkKit
import Derived.ProofKit
import Derived.Handy
import Derived.Lay
import Derived.SizedLaws
import Derived.SevenTiedAt
import Derived.Test.YtgecpcajmhgboaaLe
import Derived.Test.YtgecpcajmhgboaaFdev
import Derived.Test.YtgecpcajmhgboaaFlaw21
import Derived.Test.YtgecpcajmhgboaaSwords
import Derived.Test.YtgecpcajmhgboaaSdevS
import Derived.Test.YtgecpcajmhgboaaSdevT
import Derived.Test.YtgecpcajmhgboaaSdevA
import Derived.Test.YtgecpcajmhgboaaSdevR
import Derived.Test.YtgecpcajmhgboaaSdevD
import Derived.Test.YtgecpcajmhgboaaSdevL
set_option linter.unusedVariables false
set_option linter.unusedSimpArgs false
set_option autoImplicit false
namespace Go.Proofs.Ytgecpcajmhgboaa.M
open Go
noncomputable section
/-- moneyer/moneyerlaw21.DevNil -/
def law21_DevNil (n : Int) (b : List UInt8) (zero : Bool) : Bool :=
  bif zero then (true)
    else (true)
theorem law21_DevNil_q (n : Int) (b : List UInt8) (zero : Bool) : law21_DevNil n b zero = (bif zero then (true)
    else (true)) := by kernel_rfl
theorem law21_DevNil_spec (n : Int) (b : List UInt8) (zero : Bool) : law21_DevNil n b zero = true := by
  rw [law21_DevNil_q]
  cases zero <;> rfl

end
end Go.Proofs.Ytgecpcajmhgboaa.M

namespace Go.Proofs.Ytgecpcajmhgboaa.M
open Go
noncomputable section
set_option maxRecDepth 100000
set_option maxHeartbeats 0
noncomputable def law21_DevNil_T : Tbl := [(15, [], (orC dev_Read_n_c dev_Read_z_c)), (11, [], (orC dev_Write_n_c dev_Write_z_c)), (20, [], (orC dev_Sync_n_c dev_Sync_z_c)), (21, [], (orC dev_Cut_n_c dev_Cut_z_c)), (18, [], (orC dev_On_n_c dev_On_z_c)), (22, [], (orC dev_Sectors_n_c dev_Sectors_z_c)), (19, [], (orC dev_Writes_n_c dev_Writes_z_c)), (17, [], (orC dev_Image_n_c dev_Image_z_c)), (13, [], law21_works_c)]
noncomputable def law21_DevNil_C : CfgW := mkC Try.prog noG law21_DevNil_T 65 0 false
def law21_DevNil_lv : Nat → List Nat := fun i => []
noncomputable abbrev law21_DevNil_b : Code := Try.f7.body.getD .skip
noncomputable abbrev law21_DevNil_r : List ResultVar := Try.f7.results.toList
def law21_DevNil_hs : List Nat := []

def law21_DevNil_enc (r : Bool) : CallOut := ⟨.pv (.sc .b r), [], true, []⟩
theorem law21_DevNil_e (n : Int) (b : List UInt8) (zero : Bool) (Q : CallOut → Prop) : evalFnP law21_DevNil_C law21_DevNil_lv law21_DevNil_r law21_DevNil_hs law21_DevNil_b [.pv (.sc .i n), .pv (.sl .u8 b), .pv (.sc .b zero)] [] Q =
    (condP zero (Q (law21_DevNil_enc true)) (Q (law21_DevNil_enc true))) := by kernel_rfl
theorem law21_DevNil_w (n : Int) (b : List UInt8) (zero : Bool) {Q : CallOut → Prop} (h : Q (law21_DevNil_enc (law21_DevNil n b zero))) : evalFnP law21_DevNil_C law21_DevNil_lv law21_DevNil_r law21_DevNil_hs law21_DevNil_b [.pv (.sc .i n), .pv (.sl .u8 b), .pv (.sc .b zero)] [] Q :=
  Eq.mpr (law21_DevNil_e n b zero Q) (have h := Eq.mp (congrArg (fun r => Q (law21_DevNil_enc r)) (law21_DevNil_q n b zero)) h; cond_ok2 (Q := fun r => Q (law21_DevNil_enc r)) h (fun h => h) (fun h => h))
def law21_DevNil_c : Ans
  | [.pv (.sc .i n), .pv (.sl .u8 b), .pv (.sc .b zero)], [] => some (none, law21_DevNil_enc (true))
  | _, _ => none
theorem law21_DevNil_tok : TblOK Try.prog noG law21_DevNil_T := .cons ⟨by kernel_rfl, (FnOK.orC dev_Read_n_ok dev_Read_z_ok)⟩ (.cons ⟨by kernel_rfl, (FnOK.orC dev_Write_n_ok dev_Write_z_ok)⟩ (.cons ⟨by kernel_rfl, (FnOK.orC dev_Sync_n_ok dev_Sync_z_ok)⟩ (.cons ⟨by kernel_rfl, (FnOK.orC dev_Cut_n_ok dev_Cut_z_ok)⟩ (.cons ⟨by kernel_rfl, (FnOK.orC dev_On_n_ok dev_On_z_ok)⟩ (.cons ⟨by kernel_rfl, (FnOK.orC dev_Sectors_n_ok dev_Sectors_z_ok)⟩ (.cons ⟨by kernel_rfl, (FnOK.orC dev_Writes_n_ok dev_Writes_z_ok)⟩ (.cons ⟨by kernel_rfl, (FnOK.orC dev_Image_n_ok dev_Image_z_ok)⟩ (.cons ⟨by kernel_rfl, law21_works_ok⟩ (.nil)))))))))
theorem law21_DevNil_ok : FnOK Try.prog noG 7 (unW law21_DevNil_c) := by
  refine FnOK.ofC (T := law21_DevNil_T) (nt := 65) (np := 0) (mv := []) (nf := false) (hs := law21_DevNil_hs) (fn := Try.f7) (body := law21_DevNil_b) law21_DevNil_tok (by kernel_rfl) (by kernel_rfl) (by kernel_rfl) (by kernel_rfl) (c := law21_DevNil_c) (lv := law21_DevNil_lv) ?_
  intro xs mem p out h hp
  unfold law21_DevNil_c at h
  split at h
  · cases h
    exact law21_DevNil_w _ _ _ (congrArg law21_DevNil_enc (law21_DevNil_spec _ _ _))
  · cases h
end
end Go.Proofs.Ytgecpcajmhgboaa.M

namespace Go.Proofs.Ytgecpcajmhgboaa
open Go Go.ChangeShapes Go.WideShapes Go.ChangeAt Go.RowKit
open Go.Proofs.Ytgecpcajmhgboaa
theorem law21_DevNil_own : ownKnob Try.prog.godebug = none := by kernel_rfl
theorem law21_DevNil_law : ∀ ys : List M.PV, M.FitL [.sc .i, .sl .u8, .sc .b] ys → ∃ p out, M.law21_DevNil_c (ys.map .pv) [] = some (p, out) ∧ p.h ∧ out.val = .pv (.sc .b true) := by
  rintro ys ⟨_, _, rfl, ⟨x0, rfl, hx0⟩, ⟨_, _, rfl, ⟨x1, rfl, hx1, lx1⟩, ⟨_, _, rfl, ⟨x2, rfl, hx2⟩, rfl⟩⟩⟩
  exact ⟨_, _, rfl, trivial, rfl⟩
set_option maxRecDepth 100000 in
theorem law21_DevNil_lifted (os : Os) (started : os.Started) (H : Type) (enc : TypeId × Value → H) :
    ReturnsInHanded {} Try.checked os 7 .any (Rows.devNilSpec.pre6 enc Try.prog Try.f7 [] false)
      (Rows.devNilSpec.post enc Try.prog Try.f7 false true false false) := by
  refine returnsInHanded_of_change_sized (C := Try.checked) law21_DevNil_own started (by kernel_rfl) (by kernel_rfl)
    (ChangeSpec.witness6 (enc := enc) (C := Try.checked) (os := os) false ⟨#[], #[.int .i64 0, .slice none 0 0, .bool false], []⟩ 8 (by kernel_rfl) (by kernel_rfl) (by kernel_rfl) (by kernel_rfl)) ?_
  intro W base args ds gs before hval hW _ hsz _
  exact M.law_contract (ss := [.sc .i, .sl .u8, .sc .b]) (G := M.noG) (c := M.law21_DevNil_c) (tb := 4) rfl (fun ds h => by
      match ds, h with
      | [d0, d1, d2], _ => rfl) (by kernel_rfl) (by kernel_rfl) (by kernel_rfl) (by kernel_rfl) (by kernel_rfl) M.law21_DevNil_ok law21_DevNil_law hval hW hsz M.globOK_none
theorem devNil_row : Rows.DevNilSaid :=
  OpenClaim.holds_of_wide 7 Try.f7 rfl rfl rfl rfl rfl rfl rfl ⟨rfl, rfl, rfl, rfl, rfl⟩ rfl rfl rfl rfl rfl (by kernel_rfl) (by kernel_rfl) (by kernel_rfl)
    (of_decide_eq_true (by kernel_rfl)) (by unfold Func.isWrapper; first | (rw [if_pos (by decide +kernel)]; kernel_rfl) | (rw [if_neg (by decide +kernel)]; exact ⟨rfl, rfl⟩))
    (fun os started H enc _ => law21_DevNil_lifted os started H enc)
#print axioms devNil_row
end Go.Proofs.Ytgecpcajmhgboaa
