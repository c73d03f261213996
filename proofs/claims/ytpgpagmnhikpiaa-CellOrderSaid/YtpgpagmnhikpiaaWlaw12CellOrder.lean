/- The statement of CellOrder: for every input the law returns true, and each argument reads behind the call as it read before. No condition. -/
import Derived.KernelRfl
import Derived.Test.YtpgpagmnhikpiaaProg
import Derived.Test.YtpgpagmnhikpiaaRows
import Derived.WalkKit
import Derived.ProofKit
import Derived.Handy
import Derived.Lay
import Derived.SizedLaws
import Derived.SevenTiedAt
import Derived.Test.YtpgpagmnhikpiaaLd
import Derived.Test.YtpgpagmnhikpiaaFcell
import Derived.Test.YtpgpagmnhikpiaaFlaw12
import Derived.Test.YtpgpagmnhikpiaaSwords
import Derived.Test.YtpgpagmnhikpiaaScellS
set_option linter.unusedVariables false
set_option linter.unusedSimpArgs false
set_option autoImplicit false
namespace Go.Proofs.Ytpgpagmnhikpiaa.M
open Go
noncomputable section
/-- moneyer/moneyerlaw12.CellOrder -/
def law12_CellOrder (a : Int) (b : Int) : Option (Bool) :=
  if (I64 a) ∧ (I64 b) then
    if (I64 b) ∧ (I64 a) then
      if (I64 (Prod.fst (twoS (14 : UInt8) a b))) ∧ (I64 b) then
        bif eqb (decide ((Prod.fst (twoS (13 : UInt8) a b)) = (Prod.fst (twoS (13 : UInt8) b a)))) true then (bif eqb (bif true then (decide ((Prod.snd (twoS (13 : UInt8) a b)) = (Prod.snd (twoS (13 : UInt8) b a)))) else false) true then (bif eqb (bif true then (decide ((Prod.fst (twoS (15 : UInt8) a b)) = (Prod.fst (twoS (15 : UInt8) b a)))) else false) true then (bif eqb (bif true then (decide ((Prod.snd (twoS (15 : UInt8) a b)) = (Prod.snd (twoS (15 : UInt8) b a)))) else false) true then (bif eqb (!(decide ((Prod.snd (twoS (14 : UInt8) a b)) = (0 : Int)))) false then (bif eqb (decide ((Prod.snd (twoS (13 : UInt8) (Prod.fst (twoS (14 : UInt8) a b)) b)) = (0 : Int))) true then (bif eqb (bif true then (bif false then true else (bif true then (decide ((Prod.fst (twoS (13 : UInt8) (Prod.fst (twoS (14 : UInt8) a b)) b)) = a)) else false)) else false) true then (some true)
                      else (some false))
                    else (some false))
                  else (some true))
                else (some false))
              else (some false))
            else (some false))
          else (some false)
      else none
    else none
  else none
theorem law12_CellOrder_q (a : Int) (b : Int) : law12_CellOrder a b = (if (I64 a) ∧ (I64 b) then
    if (I64 b) ∧ (I64 a) then
      if (I64 (Prod.fst (twoS (14 : UInt8) a b))) ∧ (I64 b) then
        bif eqb (decide ((Prod.fst (twoS (13 : UInt8) a b)) = (Prod.fst (twoS (13 : UInt8) b a)))) true then (bif eqb (bif true then (decide ((Prod.snd (twoS (13 : UInt8) a b)) = (Prod.snd (twoS (13 : UInt8) b a)))) else false) true then (bif eqb (bif true then (decide ((Prod.fst (twoS (15 : UInt8) a b)) = (Prod.fst (twoS (15 : UInt8) b a)))) else false) true then (bif eqb (bif true then (decide ((Prod.snd (twoS (15 : UInt8) a b)) = (Prod.snd (twoS (15 : UInt8) b a)))) else false) true then (bif eqb (!(decide ((Prod.snd (twoS (14 : UInt8) a b)) = (0 : Int)))) false then (bif eqb (decide ((Prod.snd (twoS (13 : UInt8) (Prod.fst (twoS (14 : UInt8) a b)) b)) = (0 : Int))) true then (bif eqb (bif true then (bif false then true else (bif true then (decide ((Prod.fst (twoS (13 : UInt8) (Prod.fst (twoS (14 : UInt8) a b)) b)) = a)) else false)) else false) true then (some true)
                      else (some false))
                    else (some false))
                  else (some true))
                else (some false))
              else (some false))
            else (some false))
          else (some false)
      else none
    else none
  else none) := by kernel_rfl
theorem ckI_I64 (x : Int) : I64 (ckI x).1 := by
  unfold ckI
  split
  · assumption
  · exact ⟨by decide, by decide⟩
theorem law12_CellOrder_spec (a b : Int) (hp : I64 a ∧ I64 b) : law12_CellOrder a b = some true := by
  have e13 : ∀ a b, twoS 13 a b = ckI (a + b) := fun a b => rfl
  have e14 : ∀ a b, twoS 14 a b = ckI (a - b) := fun a b => rfl
  have e15 : ∀ a b, twoS 15 a b = ckI (a * b) := fun a b => rfl
  rw [law12_CellOrder_q, if_pos hp, if_pos ⟨hp.2, hp.1⟩]
  simp only [e13, e14, e15, eqb_t, eqb_f]
  rw [if_pos ⟨ckI_I64 _, hp.2⟩, Int.add_comm b a, Int.mul_comm b a]
  simp only [decide_true, cond_true, cond_false]
  by_cases h : -9223372036854775808 ≤ a - b ∧ a - b < 9223372036854775808
  · have e : ckI (a - b) = (a - b, 0) := if_pos h
    have e2 : ckI (a - b + b) = (a, 0) := by
      rw [Int.sub_add_cancel]
      exact if_pos hp.1
    rw [e, e2]
    simp
  · have e : ckI (a - b) = (0, 3) := if_neg h
    rw [e]
    rfl

end
end Go.Proofs.Ytpgpagmnhikpiaa.M

namespace Go.Proofs.Ytpgpagmnhikpiaa.M
open Go
noncomputable section
set_option maxRecDepth 100000
noncomputable def law12_CellOrder_T : Tbl := [(9, [], cell_Two_c), (11, [], law12_lives_c)]
noncomputable def law12_CellOrder_C : CfgW := mkC Try.prog noG law12_CellOrder_T 87 0 false
def law12_CellOrder_lv : Nat → List Nat := fun i => []
noncomputable abbrev law12_CellOrder_b : Code := Try.f5.body.getD .skip
noncomputable abbrev law12_CellOrder_r : List ResultVar := Try.f5.results.toList
def law12_CellOrder_hs : List Nat := []

def law12_CellOrder_enc (r : Bool) : CallOut := ⟨.pv (.sc .b r), [], true, []⟩
theorem law12_CellOrder_e (a : Int) (b : Int) (Q : CallOut → Prop) : evalFnP law12_CellOrder_C law12_CellOrder_lv law12_CellOrder_r law12_CellOrder_hs law12_CellOrder_b [.pv (.sc .i a), .pv (.sc .i b)] [] Q =
    (((I64 a) ∧ (I64 b)) ∧ (((I64 b) ∧ (I64 a)) ∧ (((I64 a) ∧ (I64 b)) ∧ (((I64 b) ∧ (I64 a)) ∧ (((I64 a) ∧ (I64 b)) ∧ (((I64 (Prod.fst (twoS (14 : UInt8) a b))) ∧ (I64 b)) ∧ (condP (eqb (decide ((Prod.fst (twoS (13 : UInt8) a b)) = (Prod.fst (twoS (13 : UInt8) b a)))) true) (condP (eqb (bif true then (decide ((Prod.snd (twoS (13 : UInt8) a b)) = (Prod.snd (twoS (13 : UInt8) b a)))) else false) true) (condP (eqb (bif true then (decide ((Prod.fst (twoS (15 : UInt8) a b)) = (Prod.fst (twoS (15 : UInt8) b a)))) else false) true) (condP (eqb (bif true then (decide ((Prod.snd (twoS (15 : UInt8) a b)) = (Prod.snd (twoS (15 : UInt8) b a)))) else false) true) (condP (eqb (!(decide ((Prod.snd (twoS (14 : UInt8) a b)) = (0 : Int)))) false) (condP (eqb (decide ((Prod.snd (twoS (13 : UInt8) (Prod.fst (twoS (14 : UInt8) a b)) b)) = (0 : Int))) true) (condP (eqb (bif true then (bif false then true else (bif true then (decide ((Prod.fst (twoS (13 : UInt8) (Prod.fst (twoS (14 : UInt8) a b)) b)) = a)) else false)) else false) true) (Q (law12_CellOrder_enc true)) (Q (law12_CellOrder_enc false))) (Q (law12_CellOrder_enc false))) (Q (law12_CellOrder_enc true))) (Q (law12_CellOrder_enc false))) (Q (law12_CellOrder_enc false))) (Q (law12_CellOrder_enc false))) (Q (law12_CellOrder_enc false))))))))) := by kernel_rfl
theorem law12_CellOrder_w (a : Int) (b : Int) {r} {Q : CallOut → Prop} (h : law12_CellOrder a b = some r) (hQ : Q (law12_CellOrder_enc r)) : evalFnP law12_CellOrder_C law12_CellOrder_lv law12_CellOrder_r law12_CellOrder_hs law12_CellOrder_b [.pv (.sc .i a), .pv (.sc .i b)] [] Q :=
  Eq.mpr (law12_CellOrder_e a b Q) (have h := (law12_CellOrder_q a b).symm.trans h; ite_ok h fun hc0 h => ite_ok h fun hc1 h => ⟨hc0, ⟨hc1, ⟨hc0, ite_ok h fun hc2 h => cond_ok h (fun h => cond_ok h (fun h => cond_ok h (fun h => cond_ok h (fun h => cond_ok h (fun h => cond_ok h (fun h => cond_ok h (fun h => ret_ok (Q := Q) (e := law12_CellOrder_enc) h hQ) (fun h => ret_ok (Q := Q) (e := law12_CellOrder_enc) h hQ)) (fun h => ret_ok (Q := Q) (e := law12_CellOrder_enc) h hQ)) (fun h => ret_ok (Q := Q) (e := law12_CellOrder_enc) h hQ)) (fun h => ret_ok (Q := Q) (e := law12_CellOrder_enc) h hQ)) (fun h => ret_ok (Q := Q) (e := law12_CellOrder_enc) h hQ)) (fun h => ret_ok (Q := Q) (e := law12_CellOrder_enc) h hQ)) (fun h => ret_ok (Q := Q) (e := law12_CellOrder_enc) h hQ)⟩⟩⟩)
def law12_CellOrder_c : Ans
  | [.pv (.sc .i a), .pv (.sc .i b)], [] => some (some (I64 a ∧ I64 b), law12_CellOrder_enc (true))
  | _, _ => none
theorem law12_CellOrder_tok : TblOK Try.prog noG law12_CellOrder_T := .cons ⟨by kernel_rfl, cell_Two_ok⟩ (.cons ⟨by kernel_rfl, law12_lives_ok⟩ (.nil))
theorem law12_CellOrder_ok : FnOK Try.prog noG 5 (unW law12_CellOrder_c) := by
  refine FnOK.ofC (T := law12_CellOrder_T) (nt := 87) (np := 0) (nf := false) (hs := law12_CellOrder_hs) (fn := Try.f5) (body := law12_CellOrder_b) law12_CellOrder_tok (by kernel_rfl) (by kernel_rfl) (by kernel_rfl) (by kernel_rfl) (c := law12_CellOrder_c) (lv := law12_CellOrder_lv) ?_
  intro xs mem p out h hp
  unfold law12_CellOrder_c at h
  split at h
  · cases h
    exact law12_CellOrder_w _ _ (law12_CellOrder_spec _ _ hp) rfl
  · cases h
end
end Go.Proofs.Ytpgpagmnhikpiaa.M

namespace Go.Proofs.Ytpgpagmnhikpiaa
open Go Go.ChangeShapes Go.WideShapes Go.ChangeAt Go.RowKit
open Go.Proofs.Ytpgpagmnhikpiaa
theorem law12_CellOrder_own : ownKnob Try.prog.godebug = none := by kernel_rfl
theorem law12_CellOrder_law : ∀ ys : List M.PV, M.FitL [.sc .i, .sc .i] ys → ∃ p out, M.law12_CellOrder_c (ys.map .pv) [] = some (p, out) ∧ p.h ∧ out.val = .pv (.sc .b true) := by
  rintro ys ⟨_, _, rfl, ⟨x0, rfl, hx0⟩, ⟨_, _, rfl, ⟨x1, rfl, hx1⟩, rfl⟩⟩
  exact ⟨_, _, rfl, ⟨hx0, hx1⟩, rfl⟩
set_option maxRecDepth 100000 in
theorem law12_CellOrder_lifted (os : Os) (started : os.Started) (H : Type) (enc : TypeId × Value → H) :
    ReturnsInHanded {} Try.checked os 5 .any (Rows.cellOrderSpec.pre6 enc Try.prog Try.f5 [] false)
      (Rows.cellOrderSpec.post enc Try.prog Try.f5 false true false false) := by
  refine returnsInHanded_of_change_sized (C := Try.checked) law12_CellOrder_own started (by kernel_rfl) (by kernel_rfl)
    (ChangeSpec.witness6 (enc := enc) (C := Try.checked) (os := os) false ⟨#[], #[.int .i64 0, .int .i64 0], []⟩ 8 (by kernel_rfl) (by kernel_rfl) (by kernel_rfl) (by kernel_rfl)) ?_
  intro W base args ds gs before hval hW _ hsz _
  exact M.law_contract (ss := [.sc .i, .sc .i]) (G := M.noG) (c := M.law12_CellOrder_c) (tb := 4) rfl (fun ds h => by
      match ds, h with
      | [d0, d1], _ => rfl) (by kernel_rfl) (by kernel_rfl) (by kernel_rfl) (by kernel_rfl) (by kernel_rfl) M.law12_CellOrder_ok law12_CellOrder_law hval hW hsz M.globOK_none
theorem cellOrder_row : Rows.CellOrderSaid :=
  OpenClaim.holds_of_wide 5 Try.f5 rfl rfl rfl rfl rfl rfl rfl ⟨rfl, rfl, rfl, rfl, rfl⟩ rfl rfl rfl rfl rfl (by kernel_rfl) (by kernel_rfl) (by kernel_rfl)
    (of_decide_eq_true (by kernel_rfl)) (by unfold Func.isWrapper; first | (rw [if_pos (by decide +kernel)]; kernel_rfl) | (rw [if_neg (by decide +kernel)]; exact ⟨rfl, rfl⟩))
    (fun os started H enc _ => law12_CellOrder_lifted os started H enc)
#print axioms cellOrder_row
end Go.Proofs.Ytpgpagmnhikpiaa
