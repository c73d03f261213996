/- The statement of LampChecks: for every input the law returns true, and each argument reads behind the call as it read before. No condition. -/
import Derived.KernelRfl
import Derived.Test.YtkjillpcmffgoaaDoorProg
import Derived.Test.YtkjillpcmffgoaaDoorRows
import Derived.Test.YtkjillpcmffgoaaDoorCards
import Derived.Test.YtkjillpcmffgoaaDoorTie
import Derived.WalkKit
import Derived.ProofKit
import Derived.Handy
import Derived.Lay
import Derived.SizedLaws
import Derived.SevenTiedAt
import Derived.Test.YtkjillpcmffgoaaDoorLe
import Derived.Test.YtkjillpcmffgoaaDoorFlamp
import Derived.Test.YtkjillpcmffgoaaDoorFref13
import Derived.Test.YtkjillpcmffgoaaDoorFref00
import Derived.Test.YtkjillpcmffgoaaDoorFlaw13
import Derived.Test.YtkjillpcmffgoaaDoorSwords
import Derived.Test.YtkjillpcmffgoaaDoorSshaS
import Derived.Test.YtkjillpcmffgoaaDoorSmerS
import Derived.Test.YtkjillpcmffgoaaDoorSlampS
import Derived.Test.YtkjillpcmffgoaaDoorSshaE
import Derived.Test.YtkjillpcmffgoaaDoorSshaK
import Derived.Test.YtkjillpcmffgoaaDoorSKL
set_option linter.unusedVariables false
set_option linter.unusedSimpArgs false
set_option autoImplicit false
namespace Go.Proofs.YtkjillpcmffgoaaDoor.M
open Go
noncomputable section
/-- moneyer/moneyerlaw13.LampChecks -/
def law13_LampChecks (key : Vector UInt8 32) (d : Vector UInt8 32) (sig : List UInt8) : Option (Bool) :=
  bif eqb (decide ((checkV key d sig) = (checkV key d sig))) true then (if ((hashesB (openPV sig)) = true) ∧ ((hashesB (openPV sig)) = true) then
      bif eqb (bif true then (hashesS (openPV sig) (openPV sig)) else false) true then (bif eqb (bif true then (decide ((openE sig) = (openE sig))) else false) true then (some true)
          else (some false))
        else (some false)
    else none)
    else (some false)
theorem law13_LampChecks_q (key : Vector UInt8 32) (d : Vector UInt8 32) (sig : List UInt8) : law13_LampChecks key d sig = (bif eqb (decide ((checkV key d sig) = (checkV key d sig))) true then (if ((hashesB (openPV sig)) = true) ∧ ((hashesB (openPV sig)) = true) then
      bif eqb (bif true then (hashesS (openPV sig) (openPV sig)) else false) true then (bif eqb (bif true then (decide ((openE sig) = (openE sig))) else false) true then (some true)
          else (some false))
        else (some false)
    else none)
    else (some false)) := by kernel_rfl
theorem law13_LampChecks_spec (key d : Vector UInt8 32) (sig : List UInt8) : law13_LampChecks key d sig = some true := by
  have h : hashesB (openPV sig) = true := by
    rw [openPV_eq]
    split
    · exact hashesB_arrs (by rw [openH_len]; decide)
    · rfl
  rw [law13_LampChecks_q, decide_eq_true rfl, decide_eq_true rfl, if_pos ⟨h, h⟩, hashesS_self]
  rfl

end
end Go.Proofs.YtkjillpcmffgoaaDoor.M

namespace Go.Proofs.YtkjillpcmffgoaaDoor.M
open Go
noncomputable section
set_option maxRecDepth 100000
set_option maxHeartbeats 0
noncomputable def law13_LampChecks_T : Tbl := [(44, [], lamp_Open_c), (45, [], ref13_Open_c), (42, [], lamp_Check_c), (43, [], ref13_Check_c), (46, [], ref00_Hashes_c), (41, [], law13_lives_c)]
noncomputable def law13_LampChecks_C : CfgW := mkC Tryd.prog theG law13_LampChecks_T 43 0 false
def law13_LampChecks_lv : Nat → List Nat := fun i => []
noncomputable abbrev law13_LampChecks_b : Code := Tryd.f11.body.getD .skip
noncomputable abbrev law13_LampChecks_r : List ResultVar := Tryd.f11.results.toList
def law13_LampChecks_hs : List Nat := []

def law13_LampChecks_enc (r : Bool) : CallOut := ⟨.pv (.sc .b r), [], true, []⟩
theorem law13_LampChecks_e (key : Vector UInt8 32) (d : Vector UInt8 32) (sig : List UInt8) (Q : CallOut → Prop) : evalFnP law13_LampChecks_C law13_LampChecks_lv law13_LampChecks_r law13_LampChecks_hs law13_LampChecks_b [.pv (.arr .u8 32 key), .pv (.arr .u8 32 d), .pv (.sl .u8 sig)] [] Q =
    (condP (eqb (decide ((checkV key d sig) = (checkV key d sig))) true) ((((hashesB (openPV sig)) = true) ∧ ((hashesB (openPV sig)) = true)) ∧ (condP (eqb (bif true then (hashesS (openPV sig) (openPV sig)) else false) true) (condP (eqb (bif true then (decide ((openE sig) = (openE sig))) else false) true) (Q (law13_LampChecks_enc true)) (Q (law13_LampChecks_enc false))) (Q (law13_LampChecks_enc false)))) (Q (law13_LampChecks_enc false))) := by kernel_rfl
theorem law13_LampChecks_w (key : Vector UInt8 32) (d : Vector UInt8 32) (sig : List UInt8) {r} {Q : CallOut → Prop} (h : law13_LampChecks key d sig = some r) (hQ : Q (law13_LampChecks_enc r)) : evalFnP law13_LampChecks_C law13_LampChecks_lv law13_LampChecks_r law13_LampChecks_hs law13_LampChecks_b [.pv (.arr .u8 32 key), .pv (.arr .u8 32 d), .pv (.sl .u8 sig)] [] Q :=
  Eq.mpr (law13_LampChecks_e key d sig Q) (have h := (law13_LampChecks_q key d sig).symm.trans h; cond_ok h (fun h => ite_ok h fun hc0 h => cond_ok h (fun h => cond_ok h (fun h => ret_ok (Q := Q) (e := law13_LampChecks_enc) h hQ) (fun h => ret_ok (Q := Q) (e := law13_LampChecks_enc) h hQ)) (fun h => ret_ok (Q := Q) (e := law13_LampChecks_enc) h hQ)) (fun h => ret_ok (Q := Q) (e := law13_LampChecks_enc) h hQ))
def law13_LampChecks_c : Ans
  | [.pv (.arr .u8 32 key), .pv (.arr .u8 32 d), .pv (.sl .u8 sig)], [] => some (none, law13_LampChecks_enc (true))
  | _, _ => none
theorem law13_LampChecks_tok : TblOK Tryd.prog theG law13_LampChecks_T := .cons ⟨by kernel_rfl, lamp_Open_ok⟩ (.cons ⟨by kernel_rfl, ref13_Open_ok⟩ (.cons ⟨by kernel_rfl, lamp_Check_ok⟩ (.cons ⟨by kernel_rfl, ref13_Check_ok⟩ (.cons ⟨by kernel_rfl, ref00_Hashes_ok⟩ (.cons ⟨by kernel_rfl, law13_lives_ok⟩ (.nil))))))
theorem law13_LampChecks_ok : FnOK Tryd.prog theG 11 (unW law13_LampChecks_c) := by
  refine FnOK.ofC (T := law13_LampChecks_T) (nt := 43) (np := 0) (mv := []) (nf := false) (hs := law13_LampChecks_hs) (fn := Tryd.f11) (body := law13_LampChecks_b) law13_LampChecks_tok (by kernel_rfl) (by kernel_rfl) (by kernel_rfl) (by kernel_rfl) (c := law13_LampChecks_c) (lv := law13_LampChecks_lv) ?_
  intro xs mem p out h hp
  unfold law13_LampChecks_c at h
  split at h
  · cases h
    exact law13_LampChecks_w _ _ _ (law13_LampChecks_spec _ _ _) rfl
  · cases h
end
end Go.Proofs.YtkjillpcmffgoaaDoor.M

namespace Go.Proofs.YtkjillpcmffgoaaDoor
open Go Go.ChangeShapes Go.WideShapes Go.ChangeAt Go.RowKit
open Go.Proofs.YtkjillpcmffgoaaDoor
theorem law13_LampChecks_own : ownKnob Tryd.prog.godebug = none := by kernel_rfl
theorem law13_LampChecks_law : ∀ ys : List M.PV, M.FitL [.arr .u8 32, .arr .u8 32, .sl .u8] ys → ∃ p out, M.law13_LampChecks_c (ys.map .pv) [] = some (p, out) ∧ p.h ∧ out.val = .pv (.sc .b true) := by
  rintro ys ⟨_, _, rfl, ⟨x0, rfl, hx0⟩, ⟨_, _, rfl, ⟨x1, rfl, hx1⟩, ⟨_, _, rfl, ⟨x2, rfl, hx2, lx2⟩, rfl⟩⟩⟩
  exact ⟨_, _, rfl, trivial, rfl⟩
set_option maxRecDepth 100000 in
theorem law13_LampChecks_lifted (os : Os) (started : os.Started) (H : Type) (enc : TypeId × Value → H) :
    ReturnsInHanded {} Tryd.checked os 11 .any (fun w args => (Rows.lampChecksSpec.pre enc Tryd.prog Tryd.f11 [] false w args ∧ laidMetH Tryd.prog Rows.lampChecksRow.laid w) ∧ sizedMet enc Tryd.prog Tryd.f11 (OpenSpec.ofChange Rows.lampChecksSpec) false w args)
      (Rows.lampChecksSpec.post enc Tryd.prog Tryd.f11 false true false false) := by
  refine returnsInHanded_of_change_and (C := Tryd.checked) (X := fun w _ => laidMetH Tryd.prog Rows.lampChecksRow.laid w) (fun _ _ _ hh h => h.of_heap hh) law13_LampChecks_own started (by kernel_rfl) (by kernel_rfl)
    (ChangeSpec.witness_shaped (enc := enc) (C := Tryd.checked) (os := os) (X := fun w _ => laidMetH Tryd.prog Rows.lampChecksRow.laid w) false (World.laidAll Tryd.prog os Rows.lampChecksRow.laid) #[.agg (Array.replicate 32 (.int .u8 0)), .agg (Array.replicate 32 (.int .u8 0)), .slice none 0 0] 8 (World.laidAll_os _ _ _)
      (World.shaped_of_ZipB (by kernel_rfl) (by kernel_rfl)) (by kernel_rfl) (by kernel_rfl) (by kernel_rfl)
      (by rw [MakeChecks.laidMetH_plain _ _ _ (by kernel_rfl)]; exact laidMet_laidAll _ (by kernel_rfl) (by kernel_rfl))) ?_
  intro W base args ds gs before hval hW _ hsz hL _
  exact M.law_contract (ss := [.arr .u8 32, .arr .u8 32, .sl .u8]) (G := M.theG) (c := M.law13_LampChecks_c) (tb := 4) rfl (fun ds h => by
      match ds, h with
      | [d0, d1, d2], _ => rfl) (by kernel_rfl) (by kernel_rfl) (by kernel_rfl) (by kernel_rfl) (by kernel_rfl) M.law13_LampChecks_ok law13_LampChecks_law hval hW hsz (M.globs (by rwa [MakeChecks.laidMetH_plain _ _ _ (by kernel_rfl)] at hL))
theorem lampChecks_row : Rows.LampChecksSaid :=
  OpenClaim.holds_of_wide 11 Tryd.f11 rfl rfl rfl rfl rfl rfl rfl ⟨rfl, rfl, rfl, rfl, rfl⟩ rfl rfl rfl rfl rfl (by kernel_rfl) (by kernel_rfl) (by kernel_rfl)
    (of_decide_eq_true (by kernel_rfl)) (by unfold Func.isWrapper; first | (rw [if_pos (by decide +kernel)]; kernel_rfl) | (rw [if_neg (by decide +kernel)]; exact ⟨rfl, rfl⟩))
    (fun os started H enc _ => law13_LampChecks_lifted os started H enc)
theorem lampChecks_card : Rows.LampChecksCardSaid :=
  Claim7.holds_tied_plain_at .later [] [.data] true (true, "309ffbb7a45fc8f63b017b00e1d958320a56bfcbda7dd92db1a0903d53958375") false lampChecks_row (fun _ h => by cases h) (by kernel_rfl) (fun _ h => by cases h) lampChecks_row_tie rfl ⟨rfl, rfl⟩ (by kernel_rfl) rfl
    (fun f fn hf hfn => by
      obtain rfl : f = 11 := Option.some.inj ((show Tryd.prog.funcNamed "moneyer/moneyerlaw13.LampChecks" = some 11 by kernel_rfl).symm.trans hf) |>.symm
      obtain rfl : fn = Tryd.f11 := (Option.some.inj ((show Tryd.prog.funcs[11]? = some Tryd.f11 by kernel_rfl).symm.trans hfn)).symm
      exact ⟨by kernel_rfl, fun j t ht => by
        have hp : Tryd.f11.params = #[32, 32, 29] := by kernel_rfl
        rw [hp] at ht
        have hm : t ∈ [32, 32, 29] := by simpa using Array.mem_of_getElem? ht
        have hall : ([32, 32, 29].all fun u => !Tryd.prog.wantsStandIn u) = true := by kernel_rfl
        exact (show Tryd.prog.wantsStandIn t = false by simpa using List.all_eq_true.1 hall t hm)⟩)
    (by kernel_rfl)
#print axioms lampChecks_card
end Go.Proofs.YtkjillpcmffgoaaDoor
