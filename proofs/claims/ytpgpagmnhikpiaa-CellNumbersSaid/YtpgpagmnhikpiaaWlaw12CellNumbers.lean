/- The statement of CellNumbers: for every input the law returns true, and each argument reads behind the call as it read before. No condition. -/
import Derived.KernelRfl
import Derived.Test.YtpgpagmnhikpiaaProg
import Derived.Test.YtpgpagmnhikpiaaRows
import Derived.WalkKit
import Derived.ProofKit
import Derived.Handy
import Derived.Lay
import Derived.SizedLaws
import Derived.SevenTiedAt
import Derived.Test.YtpgpagmnhikpiaaLd
import Derived.Test.YtpgpagmnhikpiaaFcell
import Derived.Test.YtpgpagmnhikpiaaFref12
import Derived.Test.YtpgpagmnhikpiaaFref00
import Derived.Test.YtpgpagmnhikpiaaFlaw12
import Derived.Test.YtpgpagmnhikpiaaSwords
import Derived.Test.YtpgpagmnhikpiaaScellS
set_option linter.unusedVariables false
set_option linter.unusedSimpArgs false
set_option autoImplicit false
namespace Go.Proofs.Ytpgpagmnhikpiaa.M
open Go
noncomputable section
/-- moneyer/moneyerlaw12.CellNumbers -/
def law12_CellNumbers (n : Int) (b : List UInt8) (is_2 : Bool) : Option (Bool) :=
  bif eqb (decide ((Prod.fst (numOf b)) = (Prod.fst (numOf b)))) true then (bif eqb (bif true then (decide ((Prod.snd (numOf b)) = (Prod.snd (numOf b)))) else false) true then (if I64 n then
        if (List.length (numB n)) ≤ (1152921504606846976 : Nat) then
          bif eqb (bif true then (decide ((numB n) = (numB n))) else false) true then (if (List.length b) ≤ (1152921504606846976 : Nat) then
              bif eqb (bif true then (decide ((cellTrue b) = (cellTrue b))) else false) true then (if (List.length (cell_Bool is_2)) ≤ (1152921504606846976 : Nat) then
                  bif eqb (bif true then (decide ((cell_Bool is_2) = (ref12_Bool is_2))) else false) true then (some true)
                    else (some false)
                else none)
                else (some false)
            else none)
            else (some false)
        else none
      else none)
      else (some false))
    else (some false)
theorem law12_CellNumbers_q (n : Int) (b : List UInt8) (is_2 : Bool) : law12_CellNumbers n b is_2 = (bif eqb (decide ((Prod.fst (numOf b)) = (Prod.fst (numOf b)))) true then (bif eqb (bif true then (decide ((Prod.snd (numOf b)) = (Prod.snd (numOf b)))) else false) true then (if I64 n then
        if (List.length (numB n)) ≤ (1152921504606846976 : Nat) then
          bif eqb (bif true then (decide ((numB n) = (numB n))) else false) true then (if (List.length b) ≤ (1152921504606846976 : Nat) then
              bif eqb (bif true then (decide ((cellTrue b) = (cellTrue b))) else false) true then (if (List.length (cell_Bool is_2)) ≤ (1152921504606846976 : Nat) then
                  bif eqb (bif true then (decide ((cell_Bool is_2) = (ref12_Bool is_2))) else false) true then (some true)
                    else (some false)
                else none)
                else (some false)
            else none)
            else (some false)
        else none
      else none)
      else (some false))
    else (some false)) := by kernel_rfl
theorem law12_CellNumbers_spec (n : Int) (b : List UInt8) (is : Bool) (hp : I64 n ∧ b.length ≤ 140737488351232) : law12_CellNumbers n b is = some true := by
  have h1 := numB_le n
  have h2 : cell_Bool is = ref12_Bool is := by cases is <;> rfl
  have h3 : (ref12_Bool is).length ≤ 1 := by cases is <;> decide
  have h4 := hp.2
  rw [law12_CellNumbers_q, h2, if_pos hp.1, if_pos (by omega), if_pos (by omega), if_pos (by omega)]
  simp [eqb_t]

end
end Go.Proofs.Ytpgpagmnhikpiaa.M

namespace Go.Proofs.Ytpgpagmnhikpiaa.M
open Go
noncomputable section
set_option maxRecDepth 100000
noncomputable def law12_CellNumbers_T : Tbl := [(12, [], cell_Number_c), (15, [], ref12_Number_c), (13, [], cell_Bytes_c), (16, [], ref12_Bytes_c), (14, [], ref00_Same_c), (17, [], cell_True_c), (18, [], ref12_True_c), (19, [], cell_Bool_c), (20, [], ref12_Bool_c), (11, [], law12_lives_c)]
noncomputable def law12_CellNumbers_C : CfgW := mkC Try.prog noG law12_CellNumbers_T 53 0 false
def law12_CellNumbers_lv : Nat → List Nat := fun i => []
noncomputable abbrev law12_CellNumbers_b : Code := Try.f6.body.getD .skip
noncomputable abbrev law12_CellNumbers_r : List ResultVar := Try.f6.results.toList
def law12_CellNumbers_hs : List Nat := []

def law12_CellNumbers_enc (r : Bool) : CallOut := ⟨.pv (.sc .b r), [], true, []⟩
theorem law12_CellNumbers_e (n : Int) (b : List UInt8) (is_2 : Bool) (Q : CallOut → Prop) : evalFnP law12_CellNumbers_C law12_CellNumbers_lv law12_CellNumbers_r law12_CellNumbers_hs law12_CellNumbers_b [.pv (.sc .i n), .pv (.sl .u8 b), .pv (.sc .b is_2)] [] Q =
    (condP (eqb (decide ((Prod.fst (numOf b)) = (Prod.fst (numOf b)))) true) (condP (eqb (bif true then (decide ((Prod.snd (numOf b)) = (Prod.snd (numOf b)))) else false) true) ((I64 n) ∧ ((I64 n) ∧ (((List.length (numB n)) ≤ (1152921504606846976 : Nat)) ∧ (condP (eqb (bif true then (decide ((numB n) = (numB n))) else false) true) (((List.length b) ≤ (1152921504606846976 : Nat)) ∧ (((List.length b) ≤ (1152921504606846976 : Nat)) ∧ (condP (eqb (bif true then (decide ((cellTrue b) = (cellTrue b))) else false) true) (((List.length (cell_Bool is_2)) ≤ (1152921504606846976 : Nat)) ∧ (condP (eqb (bif true then (decide ((cell_Bool is_2) = (ref12_Bool is_2))) else false) true) (Q (law12_CellNumbers_enc true)) (Q (law12_CellNumbers_enc false)))) (Q (law12_CellNumbers_enc false))))) (Q (law12_CellNumbers_enc false)))))) (Q (law12_CellNumbers_enc false))) (Q (law12_CellNumbers_enc false))) := by kernel_rfl
theorem law12_CellNumbers_w (n : Int) (b : List UInt8) (is_2 : Bool) {r} {Q : CallOut → Prop} (h : law12_CellNumbers n b is_2 = some r) (hQ : Q (law12_CellNumbers_enc r)) : evalFnP law12_CellNumbers_C law12_CellNumbers_lv law12_CellNumbers_r law12_CellNumbers_hs law12_CellNumbers_b [.pv (.sc .i n), .pv (.sl .u8 b), .pv (.sc .b is_2)] [] Q :=
  Eq.mpr (law12_CellNumbers_e n b is_2 Q) (have h := (law12_CellNumbers_q n b is_2).symm.trans h; cond_ok h (fun h => cond_ok h (fun h => ite_ok h fun hc0 h => ⟨hc0, ite_ok h fun hc1 h => cond_ok h (fun h => ite_ok h fun hc2 h => ⟨hc2, cond_ok h (fun h => ite_ok h fun hc3 h => cond_ok h (fun h => ret_ok (Q := Q) (e := law12_CellNumbers_enc) h hQ) (fun h => ret_ok (Q := Q) (e := law12_CellNumbers_enc) h hQ)) (fun h => ret_ok (Q := Q) (e := law12_CellNumbers_enc) h hQ)⟩) (fun h => ret_ok (Q := Q) (e := law12_CellNumbers_enc) h hQ)⟩) (fun h => ret_ok (Q := Q) (e := law12_CellNumbers_enc) h hQ)) (fun h => ret_ok (Q := Q) (e := law12_CellNumbers_enc) h hQ))
def law12_CellNumbers_c : Ans
  | [.pv (.sc .i n), .pv (.sl .u8 b), .pv (.sc .b is_2)], [] => some (some (I64 n ∧ b.length ≤ 140737488351232), law12_CellNumbers_enc (true))
  | _, _ => none
theorem law12_CellNumbers_tok : TblOK Try.prog noG law12_CellNumbers_T := .cons ⟨by kernel_rfl, cell_Number_ok⟩ (.cons ⟨by kernel_rfl, ref12_Number_ok⟩ (.cons ⟨by kernel_rfl, cell_Bytes_ok⟩ (.cons ⟨by kernel_rfl, ref12_Bytes_ok⟩ (.cons ⟨by kernel_rfl, ref00_Same_ok⟩ (.cons ⟨by kernel_rfl, cell_True_ok⟩ (.cons ⟨by kernel_rfl, ref12_True_ok⟩ (.cons ⟨by kernel_rfl, cell_Bool_ok⟩ (.cons ⟨by kernel_rfl, ref12_Bool_ok⟩ (.cons ⟨by kernel_rfl, law12_lives_ok⟩ (.nil))))))))))
theorem law12_CellNumbers_ok : FnOK Try.prog noG 6 (unW law12_CellNumbers_c) := by
  refine FnOK.ofC (T := law12_CellNumbers_T) (nt := 53) (np := 0) (nf := false) (hs := law12_CellNumbers_hs) (fn := Try.f6) (body := law12_CellNumbers_b) law12_CellNumbers_tok (by kernel_rfl) (by kernel_rfl) (by kernel_rfl) (by kernel_rfl) (c := law12_CellNumbers_c) (lv := law12_CellNumbers_lv) ?_
  intro xs mem p out h hp
  unfold law12_CellNumbers_c at h
  split at h
  · cases h
    exact law12_CellNumbers_w _ _ _ (law12_CellNumbers_spec _ _ _ hp) rfl
  · cases h
end
end Go.Proofs.Ytpgpagmnhikpiaa.M

namespace Go.Proofs.Ytpgpagmnhikpiaa
open Go Go.ChangeShapes Go.WideShapes Go.ChangeAt Go.RowKit
open Go.Proofs.Ytpgpagmnhikpiaa
theorem law12_CellNumbers_own : ownKnob Try.prog.godebug = none := by kernel_rfl
theorem law12_CellNumbers_law : ∀ ys : List M.PV, M.FitL [.sc .i, .sl .u8, .sc .b] ys → ∃ p out, M.law12_CellNumbers_c (ys.map .pv) [] = some (p, out) ∧ p.h ∧ out.val = .pv (.sc .b true) := by
  rintro ys ⟨_, _, rfl, ⟨x0, rfl, hx0⟩, ⟨_, _, rfl, ⟨x1, rfl, hx1, lx1⟩, ⟨_, _, rfl, ⟨x2, rfl, hx2⟩, rfl⟩⟩⟩
  exact ⟨_, _, rfl, ⟨hx0, by simpa [M.EK.bytes] using lx1⟩, rfl⟩
set_option maxRecDepth 100000 in
theorem law12_CellNumbers_lifted (os : Os) (started : os.Started) (H : Type) (enc : TypeId × Value → H) :
    ReturnsInHanded {} Try.checked os 6 .any (Rows.cellNumbersSpec.pre6 enc Try.prog Try.f6 [] false)
      (Rows.cellNumbersSpec.post enc Try.prog Try.f6 false true false false) := by
  refine returnsInHanded_of_change_sized (C := Try.checked) law12_CellNumbers_own started (by kernel_rfl) (by kernel_rfl)
    (ChangeSpec.witness6 (enc := enc) (C := Try.checked) (os := os) false ⟨#[], #[.int .i64 0, .slice none 0 0, .bool false], []⟩ 8 (by kernel_rfl) (by kernel_rfl) (by kernel_rfl) (by kernel_rfl)) ?_
  intro W base args ds gs before hval hW _ hsz _
  exact M.law_contract (ss := [.sc .i, .sl .u8, .sc .b]) (G := M.noG) (c := M.law12_CellNumbers_c) (tb := 4) rfl (fun ds h => by
      match ds, h with
      | [d0, d1, d2], _ => rfl) (by kernel_rfl) (by kernel_rfl) (by kernel_rfl) (by kernel_rfl) (by kernel_rfl) M.law12_CellNumbers_ok law12_CellNumbers_law hval hW hsz M.globOK_none
theorem cellNumbers_row : Rows.CellNumbersSaid :=
  OpenClaim.holds_of_wide 6 Try.f6 rfl rfl rfl rfl rfl rfl rfl ⟨rfl, rfl, rfl, rfl, rfl⟩ rfl rfl rfl rfl rfl (by kernel_rfl) (by kernel_rfl) (by kernel_rfl)
    (of_decide_eq_true (by kernel_rfl)) (by unfold Func.isWrapper; first | (rw [if_pos (by decide +kernel)]; kernel_rfl) | (rw [if_neg (by decide +kernel)]; exact ⟨rfl, rfl⟩))
    (fun os started H enc _ => law12_CellNumbers_lifted os started H enc)
#print axioms cellNumbers_row
end Go.Proofs.Ytpgpagmnhikpiaa
