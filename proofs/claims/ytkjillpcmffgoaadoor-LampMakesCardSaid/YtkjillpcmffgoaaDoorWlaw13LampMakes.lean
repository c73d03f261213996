/- The statement of LampMakes: for every input the law returns true, and each argument reads behind the call as it read before. No condition. -/
import Derived.KernelRfl
import Derived.Test.YtkjillpcmffgoaaDoorProg
import Derived.Test.YtkjillpcmffgoaaDoorRows
import Derived.Test.YtkjillpcmffgoaaDoorCards
import Derived.Test.YtkjillpcmffgoaaDoorTie
import Derived.WalkKit
import Derived.ProofKit
import Derived.Handy
import Derived.Lay
import Derived.SizedLaws
import Derived.SevenTiedAt
import Derived.Test.YtkjillpcmffgoaaDoorLe
import Derived.Test.YtkjillpcmffgoaaDoorFlamp
import Derived.Test.YtkjillpcmffgoaaDoorFref13
import Derived.Test.YtkjillpcmffgoaaDoorFref00
import Derived.Test.YtkjillpcmffgoaaDoorFlaw13
import Derived.Test.YtkjillpcmffgoaaDoorSwords
import Derived.Test.YtkjillpcmffgoaaDoorSshaS
import Derived.Test.YtkjillpcmffgoaaDoorSmerS
import Derived.Test.YtkjillpcmffgoaaDoorSlampS
import Derived.Test.YtkjillpcmffgoaaDoorSshaE
import Derived.Test.YtkjillpcmffgoaaDoorSshaK
import Derived.Test.YtkjillpcmffgoaaDoorSKL
set_option linter.unusedVariables false
set_option linter.unusedSimpArgs false
set_option autoImplicit false
namespace Go.Proofs.YtkjillpcmffgoaaDoor.M
open Go
noncomputable section
/-- moneyer/moneyerlaw13.LampMakes -/
def law13_LampMakes (seed : Vector UInt8 32) (d : Vector UInt8 32) (k_2 : UInt8) (v : UInt8) : Option (Bool) :=
  bif eqb (decide ((Vector.toList (secV seed k_2 v)) = (Vector.toList (secV seed k_2 v)))) true then (bif eqb (bif true then (decide ((bitV d k_2) = (bitV d k_2))) else false) true then (bif eqb (bif true then (decide ((Vector.toList (keyV seed)) = (Vector.toList (keyV seed)))) else false) true then (if (List.length (sigL seed d)) ≤ (1152921504606846976 : Nat) then
          bif eqb (bif true then (decide ((sigL seed d) = (sigL seed d))) else false) true then (some true)
            else (some false)
        else none)
        else (some false))
      else (some false))
    else (some false)
theorem law13_LampMakes_q (seed : Vector UInt8 32) (d : Vector UInt8 32) (k_2 : UInt8) (v : UInt8) : law13_LampMakes seed d k_2 v = (bif eqb (decide ((Vector.toList (secV seed k_2 v)) = (Vector.toList (secV seed k_2 v)))) true then (bif eqb (bif true then (decide ((bitV d k_2) = (bitV d k_2))) else false) true then (bif eqb (bif true then (decide ((Vector.toList (keyV seed)) = (Vector.toList (keyV seed)))) else false) true then (if (List.length (sigL seed d)) ≤ (1152921504606846976 : Nat) then
          bif eqb (bif true then (decide ((sigL seed d) = (sigL seed d))) else false) true then (some true)
            else (some false)
        else none)
        else (some false))
      else (some false))
    else (some false)) := by kernel_rfl
theorem law13_LampMakes_spec (seed d : Vector UInt8 32) (k v : UInt8) : law13_LampMakes seed d k v = some true := by
  rw [law13_LampMakes_q, decide_eq_true rfl, decide_eq_true rfl, decide_eq_true rfl, decide_eq_true rfl, sigL_len]
  rfl

end
end Go.Proofs.YtkjillpcmffgoaaDoor.M

namespace Go.Proofs.YtkjillpcmffgoaaDoor.M
open Go
noncomputable section
set_option maxRecDepth 100000
set_option maxHeartbeats 0
noncomputable def law13_LampMakes_T : Tbl := [(33, [], lamp_Secret_c), (34, [], ref13_Secret_c), (35, [], lamp_Bit_c), (36, [], ref13_Bit_c), (37, [], lamp_Key_c), (38, [], ref13_Key_c), (39, [], lamp_Sign_c), (40, [], ref13_Sign_c), (20, [], ref00_Same_c), (41, [], law13_lives_c)]
noncomputable def law13_LampMakes_C : CfgW := mkC Tryd.prog theG law13_LampMakes_T 46 0 false
def law13_LampMakes_lv : Nat → List Nat := fun i => []
noncomputable abbrev law13_LampMakes_b : Code := Tryd.f8.body.getD .skip
noncomputable abbrev law13_LampMakes_r : List ResultVar := Tryd.f8.results.toList
def law13_LampMakes_hs : List Nat := []

def law13_LampMakes_enc (r : Bool) : CallOut := ⟨.pv (.sc .b r), [], true, []⟩
theorem law13_LampMakes_e (seed : Vector UInt8 32) (d : Vector UInt8 32) (k_2 : UInt8) (v : UInt8) (Q : CallOut → Prop) : evalFnP law13_LampMakes_C law13_LampMakes_lv law13_LampMakes_r law13_LampMakes_hs law13_LampMakes_b [.pv (.arr .u8 32 seed), .pv (.arr .u8 32 d), .pv (.sc .u8 k_2), .pv (.sc .u8 v)] [] Q =
    (condP (eqb (decide ((Vector.toList (secV seed k_2 v)) = (Vector.toList (secV seed k_2 v)))) true) (condP (eqb (bif true then (decide ((bitV d k_2) = (bitV d k_2))) else false) true) (condP (eqb (bif true then (decide ((Vector.toList (keyV seed)) = (Vector.toList (keyV seed)))) else false) true) (((List.length (sigL seed d)) ≤ (1152921504606846976 : Nat)) ∧ (condP (eqb (bif true then (decide ((sigL seed d) = (sigL seed d))) else false) true) (Q (law13_LampMakes_enc true)) (Q (law13_LampMakes_enc false)))) (Q (law13_LampMakes_enc false))) (Q (law13_LampMakes_enc false))) (Q (law13_LampMakes_enc false))) := by kernel_rfl
theorem law13_LampMakes_w (seed : Vector UInt8 32) (d : Vector UInt8 32) (k_2 : UInt8) (v : UInt8) {r} {Q : CallOut → Prop} (h : law13_LampMakes seed d k_2 v = some r) (hQ : Q (law13_LampMakes_enc r)) : evalFnP law13_LampMakes_C law13_LampMakes_lv law13_LampMakes_r law13_LampMakes_hs law13_LampMakes_b [.pv (.arr .u8 32 seed), .pv (.arr .u8 32 d), .pv (.sc .u8 k_2), .pv (.sc .u8 v)] [] Q :=
  Eq.mpr (law13_LampMakes_e seed d k_2 v Q) (have h := (law13_LampMakes_q seed d k_2 v).symm.trans h; cond_ok h (fun h => cond_ok h (fun h => cond_ok h (fun h => ite_ok h fun hc0 h => cond_ok h (fun h => ret_ok (Q := Q) (e := law13_LampMakes_enc) h hQ) (fun h => ret_ok (Q := Q) (e := law13_LampMakes_enc) h hQ)) (fun h => ret_ok (Q := Q) (e := law13_LampMakes_enc) h hQ)) (fun h => ret_ok (Q := Q) (e := law13_LampMakes_enc) h hQ)) (fun h => ret_ok (Q := Q) (e := law13_LampMakes_enc) h hQ))
def law13_LampMakes_c : Ans
  | [.pv (.arr .u8 32 seed), .pv (.arr .u8 32 d), .pv (.sc .u8 k_2), .pv (.sc .u8 v)], [] => some (none, law13_LampMakes_enc (true))
  | _, _ => none
theorem law13_LampMakes_tok : TblOK Tryd.prog theG law13_LampMakes_T := .cons ⟨by kernel_rfl, lamp_Secret_ok⟩ (.cons ⟨by kernel_rfl, ref13_Secret_ok⟩ (.cons ⟨by kernel_rfl, lamp_Bit_ok⟩ (.cons ⟨by kernel_rfl, ref13_Bit_ok⟩ (.cons ⟨by kernel_rfl, lamp_Key_ok⟩ (.cons ⟨by kernel_rfl, ref13_Key_ok⟩ (.cons ⟨by kernel_rfl, lamp_Sign_ok⟩ (.cons ⟨by kernel_rfl, ref13_Sign_ok⟩ (.cons ⟨by kernel_rfl, ref00_Same_ok⟩ (.cons ⟨by kernel_rfl, law13_lives_ok⟩ (.nil))))))))))
theorem law13_LampMakes_ok : FnOK Tryd.prog theG 8 (unW law13_LampMakes_c) := by
  refine FnOK.ofC (T := law13_LampMakes_T) (nt := 46) (np := 0) (mv := []) (nf := false) (hs := law13_LampMakes_hs) (fn := Tryd.f8) (body := law13_LampMakes_b) law13_LampMakes_tok (by kernel_rfl) (by kernel_rfl) (by kernel_rfl) (by kernel_rfl) (c := law13_LampMakes_c) (lv := law13_LampMakes_lv) ?_
  intro xs mem p out h hp
  unfold law13_LampMakes_c at h
  split at h
  · cases h
    exact law13_LampMakes_w _ _ _ _ (law13_LampMakes_spec _ _ _ _) rfl
  · cases h
end
end Go.Proofs.YtkjillpcmffgoaaDoor.M

namespace Go.Proofs.YtkjillpcmffgoaaDoor
open Go Go.ChangeShapes Go.WideShapes Go.ChangeAt Go.RowKit
open Go.Proofs.YtkjillpcmffgoaaDoor
theorem law13_LampMakes_own : ownKnob Tryd.prog.godebug = none := by kernel_rfl
theorem law13_LampMakes_law : ∀ ys : List M.PV, M.FitL [.arr .u8 32, .arr .u8 32, .sc .u8, .sc .u8] ys → ∃ p out, M.law13_LampMakes_c (ys.map .pv) [] = some (p, out) ∧ p.h ∧ out.val = .pv (.sc .b true) := by
  rintro ys ⟨_, _, rfl, ⟨x0, rfl, hx0⟩, ⟨_, _, rfl, ⟨x1, rfl, hx1⟩, ⟨_, _, rfl, ⟨x2, rfl, hx2⟩, ⟨_, _, rfl, ⟨x3, rfl, hx3⟩, rfl⟩⟩⟩⟩
  exact ⟨_, _, rfl, trivial, rfl⟩
set_option maxRecDepth 100000 in
theorem law13_LampMakes_lifted (os : Os) (started : os.Started) (H : Type) (enc : TypeId × Value → H) :
    ReturnsInHanded {} Tryd.checked os 8 .any (fun w args => (Rows.lampMakesSpec.pre enc Tryd.prog Tryd.f8 [] false w args ∧ laidMetH Tryd.prog Rows.lampMakesRow.laid w) ∧ sizedMet enc Tryd.prog Tryd.f8 (OpenSpec.ofChange Rows.lampMakesSpec) false w args)
      (Rows.lampMakesSpec.post enc Tryd.prog Tryd.f8 false true false false) := by
  refine returnsInHanded_of_change_and (C := Tryd.checked) (X := fun w _ => laidMetH Tryd.prog Rows.lampMakesRow.laid w) (fun _ _ _ hh h => h.of_heap hh) law13_LampMakes_own started (by kernel_rfl) (by kernel_rfl)
    (ChangeSpec.witness_shaped (enc := enc) (C := Tryd.checked) (os := os) (X := fun w _ => laidMetH Tryd.prog Rows.lampMakesRow.laid w) false (World.laidAll Tryd.prog os Rows.lampMakesRow.laid) #[.agg (Array.replicate 32 (.int .u8 0)), .agg (Array.replicate 32 (.int .u8 0)), .int .u8 0, .int .u8 0] 8 (World.laidAll_os _ _ _)
      (World.shaped_of_ZipB (by kernel_rfl) (by kernel_rfl)) (by kernel_rfl) (by kernel_rfl) (by kernel_rfl)
      (by rw [MakeChecks.laidMetH_plain _ _ _ (by kernel_rfl)]; exact laidMet_laidAll _ (by kernel_rfl) (by kernel_rfl))) ?_
  intro W base args ds gs before hval hW _ hsz hL _
  exact M.law_contract (ss := [.arr .u8 32, .arr .u8 32, .sc .u8, .sc .u8]) (G := M.theG) (c := M.law13_LampMakes_c) (tb := 4) rfl (fun ds h => by
      match ds, h with
      | [d0, d1, d2, d3], _ => rfl) (by kernel_rfl) (by kernel_rfl) (by kernel_rfl) (by kernel_rfl) (by kernel_rfl) M.law13_LampMakes_ok law13_LampMakes_law hval hW hsz (M.globs (by rwa [MakeChecks.laidMetH_plain _ _ _ (by kernel_rfl)] at hL))
theorem lampMakes_row : Rows.LampMakesSaid :=
  OpenClaim.holds_of_wide 8 Tryd.f8 rfl rfl rfl rfl rfl rfl rfl ⟨rfl, rfl, rfl, rfl, rfl⟩ rfl rfl rfl rfl rfl (by kernel_rfl) (by kernel_rfl) (by kernel_rfl)
    (of_decide_eq_true (by kernel_rfl)) (by unfold Func.isWrapper; first | (rw [if_pos (by decide +kernel)]; kernel_rfl) | (rw [if_neg (by decide +kernel)]; exact ⟨rfl, rfl⟩))
    (fun os started H enc _ => law13_LampMakes_lifted os started H enc)
theorem lampMakes_card : Rows.LampMakesCardSaid :=
  Claim7.holds_tied_plain_at .later [] [.data] true (true, "309ffbb7a45fc8f63b017b00e1d958320a56bfcbda7dd92db1a0903d53958375") false lampMakes_row (fun _ h => by cases h) (by kernel_rfl) (fun _ h => by cases h) lampMakes_row_tie rfl ⟨rfl, rfl⟩ (by kernel_rfl) rfl
    (fun f fn hf hfn => by
      obtain rfl : f = 8 := Option.some.inj ((show Tryd.prog.funcNamed "moneyer/moneyerlaw13.LampMakes" = some 8 by kernel_rfl).symm.trans hf) |>.symm
      obtain rfl : fn = Tryd.f8 := (Option.some.inj ((show Tryd.prog.funcs[8]? = some Tryd.f8 by kernel_rfl).symm.trans hfn)).symm
      exact ⟨by kernel_rfl, fun j t ht => by
        have hp : Tryd.f8.params = #[32, 32, 5, 5] := by kernel_rfl
        rw [hp] at ht
        have hm : t ∈ [32, 32, 5, 5] := by simpa using Array.mem_of_getElem? ht
        have hall : ([32, 32, 5, 5].all fun u => !Tryd.prog.wantsStandIn u) = true := by kernel_rfl
        exact (show Tryd.prog.wantsStandIn t = false by simpa using List.all_eq_true.1 hall t hm)⟩)
    (by kernel_rfl)
#print axioms lampMakes_card
end Go.Proofs.YtkjillpcmffgoaaDoor
