/- The statement of ShaRounds: for every input the law returns true, and each argument reads behind the call as it read before. No condition. -/
import Derived.KernelRfl
import Derived.Test.YtkjillpcmffgoaaDoorProg
import Derived.Test.YtkjillpcmffgoaaDoorRows
import Derived.Test.YtkjillpcmffgoaaDoorCards
import Derived.Test.YtkjillpcmffgoaaDoorTie
import Derived.WalkKit
import Derived.ProofKit
import Derived.Handy
import Derived.Lay
import Derived.SizedLaws
import Derived.SevenTiedAt
import Derived.Test.YtkjillpcmffgoaaDoorLd
import Derived.Test.YtkjillpcmffgoaaDoorFsha
import Derived.Test.YtkjillpcmffgoaaDoorFref02
import Derived.Test.YtkjillpcmffgoaaDoorFlaw02
import Derived.Test.YtkjillpcmffgoaaDoorSshaK
import Derived.Test.YtkjillpcmffgoaaDoorSKL
set_option linter.unusedVariables false
set_option linter.unusedSimpArgs false
set_option autoImplicit false
namespace Go.Proofs.YtkjillpcmffgoaaDoor.M
open Go
noncomputable section
/-- moneyer/moneyerlaw02.ShaRounds -/
def law02_ShaRounds (s : Vector UInt32 8) (b : Vector UInt8 64) : Bool :=
  bif eqb (decide ((Vector.toList (shaRound shaK s (fun (z3 : Nat) => (List.getD (Vector.toList b) z3 (0 : UInt8))))) = (Vector.toList (shaRound shaK s (fun (z3 : Nat) => (List.getD (Vector.toList b) z3 (0 : UInt8))))))) true then (true)
    else (false)
theorem law02_ShaRounds_q (s : Vector UInt32 8) (b : Vector UInt8 64) : law02_ShaRounds s b = (bif eqb (decide ((Vector.toList (shaRound shaK s (fun (z3 : Nat) => (List.getD (Vector.toList b) z3 (0 : UInt8))))) = (Vector.toList (shaRound shaK s (fun (z3 : Nat) => (List.getD (Vector.toList b) z3 (0 : UInt8))))))) true then (true)
    else (false)) := by kernel_rfl
theorem law02_ShaRounds_spec (s : Vector UInt32 8) (b : Vector UInt8 64) : law02_ShaRounds s b = true := by
  rw [law02_ShaRounds_q, decide_eq_true (rfl : _ = _)]
  rfl

end
end Go.Proofs.YtkjillpcmffgoaaDoor.M

namespace Go.Proofs.YtkjillpcmffgoaaDoor.M
open Go
noncomputable section
set_option maxRecDepth 100000
noncomputable def law02_ShaRounds_T : Tbl := [(13, [], sha_Round_c), (14, [], ref02_Round_c), (15, [], sha_Begin_c), (16, [], ref02_Begin_c), (17, [], law02_works_c)]
noncomputable def law02_ShaRounds_C : CfgW := mkC Tryd.prog theG law02_ShaRounds_T 20 2
def law02_ShaRounds_lv : Nat → List Nat := fun i => []
noncomputable abbrev law02_ShaRounds_b : Code := Tryd.f3.body.getD .skip
noncomputable abbrev law02_ShaRounds_r : List ResultVar := Tryd.f3.results.toList
def law02_ShaRounds_hs : List Nat := []

def law02_ShaRounds_enc (r : Bool) : CallOut := ⟨.pv (.sc .b r), [], true, []⟩
theorem law02_ShaRounds_e (s : Vector UInt32 8) (b : Vector UInt8 64) (Q : CallOut → Prop) : evalFnP law02_ShaRounds_C law02_ShaRounds_lv law02_ShaRounds_r law02_ShaRounds_hs law02_ShaRounds_b [.pv (.arr .u32 8 s), .pv (.arr .u8 64 b)] [] Q =
    (condP (eqb (decide ((Vector.toList (shaRound shaK s (fun (z3 : Nat) => (List.getD (Vector.toList b) z3 (0 : UInt8))))) = (Vector.toList (shaRound shaK s (fun (z3 : Nat) => (List.getD (Vector.toList b) z3 (0 : UInt8))))))) true) (((Option.isSome ref02_Begin_z) = true) ∧ (Q (law02_ShaRounds_enc true))) (Q (law02_ShaRounds_enc false))) := by kernel_rfl
theorem law02_ShaRounds_w (s : Vector UInt32 8) (b : Vector UInt8 64) {Q : CallOut → Prop} (h : Q (law02_ShaRounds_enc (law02_ShaRounds s b))) : evalFnP law02_ShaRounds_C law02_ShaRounds_lv law02_ShaRounds_r law02_ShaRounds_hs law02_ShaRounds_b [.pv (.arr .u32 8 s), .pv (.arr .u8 64 b)] [] Q :=
  Eq.mpr (law02_ShaRounds_e s b Q) (have h := Eq.mp (congrArg (fun r => Q (law02_ShaRounds_enc r)) (law02_ShaRounds_q s b)) h; cond_ok2 (Q := fun r => Q (law02_ShaRounds_enc r)) h (fun h => ⟨by decide +kernel, h⟩) (fun h => h))
def law02_ShaRounds_c : Ans
  | [.pv (.arr .u32 8 s), .pv (.arr .u8 64 b)], [] => some (none, law02_ShaRounds_enc (true))
  | _, _ => none
theorem law02_ShaRounds_tok : TblOK Tryd.prog theG law02_ShaRounds_T := .cons ⟨by kernel_rfl, sha_Round_ok⟩ (.cons ⟨by kernel_rfl, ref02_Round_ok⟩ (.cons ⟨by kernel_rfl, sha_Begin_ok⟩ (.cons ⟨by kernel_rfl, ref02_Begin_ok⟩ (.cons ⟨by kernel_rfl, law02_works_ok⟩ (.nil)))))
theorem law02_ShaRounds_ok : FnOK Tryd.prog theG 3 (unW law02_ShaRounds_c) := by
  refine FnOK.ofC (T := law02_ShaRounds_T) (nt := 20) (np := 2) (hs := law02_ShaRounds_hs) (fn := Tryd.f3) (body := law02_ShaRounds_b) law02_ShaRounds_tok (by kernel_rfl) (by kernel_rfl) (by kernel_rfl) (by kernel_rfl) (c := law02_ShaRounds_c) (lv := law02_ShaRounds_lv) ?_
  intro xs mem p out h hp
  unfold law02_ShaRounds_c at h
  split at h
  · cases h
    exact law02_ShaRounds_w _ _ (congrArg law02_ShaRounds_enc (law02_ShaRounds_spec _ _))
  · cases h
end
end Go.Proofs.YtkjillpcmffgoaaDoor.M

namespace Go.Proofs.YtkjillpcmffgoaaDoor
open Go Go.ChangeShapes Go.WideShapes Go.ChangeAt Go.RowKit
open Go.Proofs.YtkjillpcmffgoaaDoor
theorem law02_ShaRounds_own : ownKnob Tryd.prog.godebug = none := by kernel_rfl
theorem law02_ShaRounds_law : ∀ ys : List M.PV, M.FitL [.arr .u32 8, .arr .u8 64] ys → ∃ p out, M.law02_ShaRounds_c (ys.map .pv) [] = some (p, out) ∧ p.h ∧ out.val = .pv (.sc .b true) := by
  rintro ys ⟨_, _, rfl, ⟨x0, rfl, hx0⟩, ⟨_, _, rfl, ⟨x1, rfl, hx1⟩, rfl⟩⟩
  exact ⟨_, _, rfl, trivial, rfl⟩
set_option maxRecDepth 100000 in
theorem law02_ShaRounds_lifted (os : Os) (started : os.Started) (H : Type) (enc : TypeId × Value → H) :
    ReturnsInHanded {} Tryd.checked os 3 .any (fun w args => (Rows.shaRoundsSpec.pre enc Tryd.prog Tryd.f3 [] false w args ∧ laidMetH Tryd.prog Rows.shaRoundsRow.laid w) ∧ sizedMet enc Tryd.prog Tryd.f3 (OpenSpec.ofChange Rows.shaRoundsSpec) false w args)
      (Rows.shaRoundsSpec.post enc Tryd.prog Tryd.f3 false true false false) := by
  refine returnsInHanded_of_change_and (C := Tryd.checked) (X := fun w _ => laidMetH Tryd.prog Rows.shaRoundsRow.laid w) (fun _ _ _ hh h => h.of_heap hh) law02_ShaRounds_own started (by kernel_rfl) (by kernel_rfl)
    (ChangeSpec.witness_shaped (enc := enc) (C := Tryd.checked) (os := os) (X := fun w _ => laidMetH Tryd.prog Rows.shaRoundsRow.laid w) false (World.laidAll Tryd.prog os Rows.shaRoundsRow.laid) #[.agg (Array.replicate 8 (.int .u32 0)), .agg (Array.replicate 64 (.int .u8 0))] 8 (World.laidAll_os _ _ _)
      (World.shaped_of_ZipB (by kernel_rfl) (by kernel_rfl)) (by kernel_rfl) (by kernel_rfl) (by kernel_rfl)
      (by rw [MakeChecks.laidMetH_plain _ _ _ (by kernel_rfl)]; exact laidMet_laidAll _ (by kernel_rfl) (by kernel_rfl))) ?_
  intro W base args ds gs before hval hW _ hsz hL _
  exact M.law_contract (ss := [.arr .u32 8, .arr .u8 64]) (G := M.theG) (c := M.law02_ShaRounds_c) (tb := 4) rfl (fun ds h => by
      match ds, h with
      | [d0, d1], _ => rfl) (by kernel_rfl) (by kernel_rfl) (by kernel_rfl) (by kernel_rfl) (by kernel_rfl) M.law02_ShaRounds_ok law02_ShaRounds_law hval hW hsz (M.globs (by rwa [MakeChecks.laidMetH_plain _ _ _ (by kernel_rfl)] at hL))
theorem shaRounds_row : Rows.ShaRoundsSaid :=
  OpenClaim.holds_of_wide 3 Tryd.f3 rfl rfl rfl rfl rfl rfl rfl ⟨rfl, rfl, rfl, rfl, rfl⟩ rfl rfl rfl rfl rfl (by kernel_rfl) (by kernel_rfl) (by kernel_rfl)
    (of_decide_eq_true (by kernel_rfl)) (by unfold Func.isWrapper; first | (rw [if_pos (by decide +kernel)]; kernel_rfl) | (rw [if_neg (by decide +kernel)]; exact ⟨rfl, rfl⟩))
    (fun os started H enc _ => law02_ShaRounds_lifted os started H enc)
theorem shaRounds_card : Rows.ShaRoundsCardSaid :=
  Claim7.holds_tied_plain_at .later [] [.data] true (true, "309ffbb7a45fc8f63b017b00e1d958320a56bfcbda7dd92db1a0903d53958375") false shaRounds_row (fun _ h => by cases h) (by kernel_rfl) (fun _ h => by cases h) shaRounds_row_tie rfl ⟨rfl, rfl⟩ (by kernel_rfl) rfl
    (fun f fn hf hfn => by
      obtain rfl : f = 3 := Option.some.inj ((show Tryd.prog.funcNamed "moneyer/moneyerlaw02.ShaRounds" = some 3 by kernel_rfl).symm.trans hf) |>.symm
      obtain rfl : fn = Tryd.f3 := (Option.some.inj ((show Tryd.prog.funcs[3]? = some Tryd.f3 by kernel_rfl).symm.trans hfn)).symm
      exact ⟨by kernel_rfl, fun j t ht => by
        have hp : Tryd.f3.params = #[23, 24] := by kernel_rfl
        rw [hp] at ht
        have hm : t ∈ [23, 24] := by simpa using Array.mem_of_getElem? ht
        have hall : ([23, 24].all fun u => !Tryd.prog.wantsStandIn u) = true := by kernel_rfl
        exact (show Tryd.prog.wantsStandIn t = false by simpa using List.all_eq_true.1 hall t hm)⟩)
    (by kernel_rfl)
#print axioms shaRounds_card
end Go.Proofs.YtkjillpcmffgoaaDoor
