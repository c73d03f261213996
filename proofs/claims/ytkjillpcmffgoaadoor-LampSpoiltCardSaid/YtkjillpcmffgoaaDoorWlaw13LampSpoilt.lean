/- The statement of LampSpoilt: for every input the law returns true, and each argument reads behind the call as it read before. No condition. -/
import Derived.KernelRfl
import Derived.Test.YtkjillpcmffgoaaDoorProg
import Derived.Test.YtkjillpcmffgoaaDoorRows
import Derived.Test.YtkjillpcmffgoaaDoorCards
import Derived.Test.YtkjillpcmffgoaaDoorTie
import Derived.WalkKit
import Derived.ProofKit
import Derived.Handy
import Derived.Lay
import Derived.SizedLaws
import Derived.SevenTiedAt
import Derived.Test.YtkjillpcmffgoaaDoorLe
import Derived.Test.YtkjillpcmffgoaaDoorFlamp
import Derived.Test.YtkjillpcmffgoaaDoorFref13
import Derived.Test.YtkjillpcmffgoaaDoorFlaw13
import Derived.Test.YtkjillpcmffgoaaDoorSwords
import Derived.Test.YtkjillpcmffgoaaDoorSshaS
import Derived.Test.YtkjillpcmffgoaaDoorSmerS
import Derived.Test.YtkjillpcmffgoaaDoorSlampS
import Derived.Test.YtkjillpcmffgoaaDoorSshaE
import Derived.Test.YtkjillpcmffgoaaDoorSshaK
import Derived.Test.YtkjillpcmffgoaaDoorSKL
set_option linter.unusedVariables false
set_option linter.unusedSimpArgs false
set_option autoImplicit false
namespace Go.Proofs.YtkjillpcmffgoaaDoor.M
open Go
noncomputable section
/-- moneyer/moneyerlaw13.LampSpoilt -/
def law13_LampSpoilt (seed : Vector UInt8 32) (d : Vector UInt8 32) (at_2 : Int) (c : UInt8) : Option (Bool) :=
  bif decide ((((List.length (sigL seed d)) : Nat) : Int) = (0 : Int)) then (some false)
    else (if (UInt64.ofInt (((List.length (sigL seed d)) : Nat) : Int)) ≠ (0 : UInt64) then
      if ((0 : Int) ≤ (w64 (((UInt64.toNat ((UInt64.ofInt at_2) % (UInt64.ofInt (((List.length (sigL seed d)) : Nat) : Int)))) : Nat) : Int))) ∧ ((w64 (((UInt64.toNat ((UInt64.ofInt at_2) % (UInt64.ofInt (((List.length (sigL seed d)) : Nat) : Int)))) : Nat) : Int)) < (((List.length (sigL seed d)) : Nat) : Int)) then
        bif eqb (decide ((checkV (keyV seed) d (List.set (sigL seed d) (Int.toNat (w64 (((UInt64.toNat ((UInt64.ofInt at_2) % (UInt64.ofInt (((List.length (sigL seed d)) : Nat) : Int)))) : Nat) : Int))) c)) = (checkV (keyV seed) d (List.set (sigL seed d) (Int.toNat (w64 (((UInt64.toNat ((UInt64.ofInt at_2) % (UInt64.ofInt (((List.length (sigL seed d)) : Nat) : Int)))) : Nat) : Int))) c)))) true then (some true)
          else (some false)
      else none
    else none)
theorem law13_LampSpoilt_q (seed : Vector UInt8 32) (d : Vector UInt8 32) (at_2 : Int) (c : UInt8) : law13_LampSpoilt seed d at_2 c = (bif decide ((((List.length (sigL seed d)) : Nat) : Int) = (0 : Int)) then (some false)
    else (if (UInt64.ofInt (((List.length (sigL seed d)) : Nat) : Int)) ≠ (0 : UInt64) then
      if ((0 : Int) ≤ (w64 (((UInt64.toNat ((UInt64.ofInt at_2) % (UInt64.ofInt (((List.length (sigL seed d)) : Nat) : Int)))) : Nat) : Int))) ∧ ((w64 (((UInt64.toNat ((UInt64.ofInt at_2) % (UInt64.ofInt (((List.length (sigL seed d)) : Nat) : Int)))) : Nat) : Int)) < (((List.length (sigL seed d)) : Nat) : Int)) then
        bif eqb (decide ((checkV (keyV seed) d (List.set (sigL seed d) (Int.toNat (w64 (((UInt64.toNat ((UInt64.ofInt at_2) % (UInt64.ofInt (((List.length (sigL seed d)) : Nat) : Int)))) : Nat) : Int))) c)) = (checkV (keyV seed) d (List.set (sigL seed d) (Int.toNat (w64 (((UInt64.toNat ((UInt64.ofInt at_2) % (UInt64.ofInt (((List.length (sigL seed d)) : Nat) : Int)))) : Nat) : Int))) c)))) true then (some true)
          else (some false)
      else none
    else none)) := by kernel_rfl
theorem law13_LampSpoilt_spec (seed d : Vector UInt8 32) (at_2 : Int) (c : UInt8) : law13_LampSpoilt seed d at_2 c = some true := by
  have hn : (UInt64.ofInt ((2048 : Nat) : Int)).toNat = 2048 := u64_ofInt (by decide)
  have hm : (UInt64.ofInt at_2 % UInt64.ofInt ((2048 : Nat) : Int)).toNat < 2048 := by
    rw [UInt64.toNat_mod, hn]
    exact Nat.mod_lt _ (by decide)
  rw [law13_LampSpoilt_q]
  simp only [sigL_len]
  rw [w64_id (by omega) (by omega), bif_neg (by decide), if_pos (by intro h; have := congrArg UInt64.toNat h; rw [hn] at this; cases this), if_pos ⟨by omega, by omega⟩]
  rfl

end
end Go.Proofs.YtkjillpcmffgoaaDoor.M

namespace Go.Proofs.YtkjillpcmffgoaaDoor.M
open Go
noncomputable section
set_option maxRecDepth 100000
set_option maxHeartbeats 0
noncomputable def law13_LampSpoilt_T : Tbl := [(39, [], lamp_Sign_c), (37, [], lamp_Key_c), (42, [], lamp_Check_c), (43, [], ref13_Check_c), (41, [], law13_lives_c)]
noncomputable def law13_LampSpoilt_C : CfgW := mkC Tryd.prog theG law13_LampSpoilt_T 41 0 false
def law13_LampSpoilt_lv : Nat → List Nat := fun i => []
noncomputable abbrev law13_LampSpoilt_b : Code := Tryd.f10.body.getD .skip
noncomputable abbrev law13_LampSpoilt_r : List ResultVar := Tryd.f10.results.toList
def law13_LampSpoilt_hs : List Nat := []

def law13_LampSpoilt_enc (r : Bool) : CallOut := ⟨.pv (.sc .b r), [], true, []⟩
theorem law13_LampSpoilt_e (seed : Vector UInt8 32) (d : Vector UInt8 32) (at_2 : Int) (c : UInt8) (Q : CallOut → Prop) : evalFnP law13_LampSpoilt_C law13_LampSpoilt_lv law13_LampSpoilt_r law13_LampSpoilt_hs law13_LampSpoilt_b [.pv (.arr .u8 32 seed), .pv (.arr .u8 32 d), .pv (.sc .i at_2), .pv (.sc .u8 c)] [] Q =
    (condP (decide ((((List.length (sigL seed d)) : Nat) : Int) = (0 : Int))) (Q (law13_LampSpoilt_enc false)) (((UInt64.ofInt (((List.length (sigL seed d)) : Nat) : Int)) ≠ (0 : UInt64)) ∧ ((((0 : Int) ≤ (w64 (((UInt64.toNat ((UInt64.ofInt at_2) % (UInt64.ofInt (((List.length (sigL seed d)) : Nat) : Int)))) : Nat) : Int))) ∧ ((w64 (((UInt64.toNat ((UInt64.ofInt at_2) % (UInt64.ofInt (((List.length (sigL seed d)) : Nat) : Int)))) : Nat) : Int)) < (((List.length (sigL seed d)) : Nat) : Int))) ∧ (condP (eqb (decide ((checkV (keyV seed) d (List.set (sigL seed d) (Int.toNat (w64 (((UInt64.toNat ((UInt64.ofInt at_2) % (UInt64.ofInt (((List.length (sigL seed d)) : Nat) : Int)))) : Nat) : Int))) c)) = (checkV (keyV seed) d (List.set (sigL seed d) (Int.toNat (w64 (((UInt64.toNat ((UInt64.ofInt at_2) % (UInt64.ofInt (((List.length (sigL seed d)) : Nat) : Int)))) : Nat) : Int))) c)))) true) (Q (law13_LampSpoilt_enc true)) (Q (law13_LampSpoilt_enc false)))))) := by kernel_rfl
theorem law13_LampSpoilt_w (seed : Vector UInt8 32) (d : Vector UInt8 32) (at_2 : Int) (c : UInt8) {r} {Q : CallOut → Prop} (h : law13_LampSpoilt seed d at_2 c = some r) (hQ : Q (law13_LampSpoilt_enc r)) : evalFnP law13_LampSpoilt_C law13_LampSpoilt_lv law13_LampSpoilt_r law13_LampSpoilt_hs law13_LampSpoilt_b [.pv (.arr .u8 32 seed), .pv (.arr .u8 32 d), .pv (.sc .i at_2), .pv (.sc .u8 c)] [] Q :=
  Eq.mpr (law13_LampSpoilt_e seed d at_2 c Q) (have h := (law13_LampSpoilt_q seed d at_2 c).symm.trans h; cond_ok h (fun h => ret_ok (Q := Q) (e := law13_LampSpoilt_enc) h hQ) (fun h => ite_ok h fun hc0 h => ite_ok h fun hc1 h => cond_ok h (fun h => ret_ok (Q := Q) (e := law13_LampSpoilt_enc) h hQ) (fun h => ret_ok (Q := Q) (e := law13_LampSpoilt_enc) h hQ)))
def law13_LampSpoilt_c : Ans
  | [.pv (.arr .u8 32 seed), .pv (.arr .u8 32 d), .pv (.sc .i at_2), .pv (.sc .u8 c)], [] => some (none, law13_LampSpoilt_enc (true))
  | _, _ => none
theorem law13_LampSpoilt_tok : TblOK Tryd.prog theG law13_LampSpoilt_T := .cons ⟨by kernel_rfl, lamp_Sign_ok⟩ (.cons ⟨by kernel_rfl, lamp_Key_ok⟩ (.cons ⟨by kernel_rfl, lamp_Check_ok⟩ (.cons ⟨by kernel_rfl, ref13_Check_ok⟩ (.cons ⟨by kernel_rfl, law13_lives_ok⟩ (.nil)))))
theorem law13_LampSpoilt_ok : FnOK Tryd.prog theG 10 (unW law13_LampSpoilt_c) := by
  refine FnOK.ofC (T := law13_LampSpoilt_T) (nt := 41) (np := 0) (mv := []) (nf := false) (hs := law13_LampSpoilt_hs) (fn := Tryd.f10) (body := law13_LampSpoilt_b) law13_LampSpoilt_tok (by kernel_rfl) (by kernel_rfl) (by kernel_rfl) (by kernel_rfl) (c := law13_LampSpoilt_c) (lv := law13_LampSpoilt_lv) ?_
  intro xs mem p out h hp
  unfold law13_LampSpoilt_c at h
  split at h
  · cases h
    exact law13_LampSpoilt_w _ _ _ _ (law13_LampSpoilt_spec _ _ _ _) rfl
  · cases h
end
end Go.Proofs.YtkjillpcmffgoaaDoor.M

namespace Go.Proofs.YtkjillpcmffgoaaDoor
open Go Go.ChangeShapes Go.WideShapes Go.ChangeAt Go.RowKit
open Go.Proofs.YtkjillpcmffgoaaDoor
theorem law13_LampSpoilt_own : ownKnob Tryd.prog.godebug = none := by kernel_rfl
theorem law13_LampSpoilt_law : ∀ ys : List M.PV, M.FitL [.arr .u8 32, .arr .u8 32, .sc .i, .sc .u8] ys → ∃ p out, M.law13_LampSpoilt_c (ys.map .pv) [] = some (p, out) ∧ p.h ∧ out.val = .pv (.sc .b true) := by
  rintro ys ⟨_, _, rfl, ⟨x0, rfl, hx0⟩, ⟨_, _, rfl, ⟨x1, rfl, hx1⟩, ⟨_, _, rfl, ⟨x2, rfl, hx2⟩, ⟨_, _, rfl, ⟨x3, rfl, hx3⟩, rfl⟩⟩⟩⟩
  exact ⟨_, _, rfl, trivial, rfl⟩
set_option maxRecDepth 100000 in
theorem law13_LampSpoilt_lifted (os : Os) (started : os.Started) (H : Type) (enc : TypeId × Value → H) :
    ReturnsInHanded {} Tryd.checked os 10 .any (fun w args => (Rows.lampSpoiltSpec.pre enc Tryd.prog Tryd.f10 [] false w args ∧ laidMetH Tryd.prog Rows.lampSpoiltRow.laid w) ∧ sizedMet enc Tryd.prog Tryd.f10 (OpenSpec.ofChange Rows.lampSpoiltSpec) false w args)
      (Rows.lampSpoiltSpec.post enc Tryd.prog Tryd.f10 false true false false) := by
  refine returnsInHanded_of_change_and (C := Tryd.checked) (X := fun w _ => laidMetH Tryd.prog Rows.lampSpoiltRow.laid w) (fun _ _ _ hh h => h.of_heap hh) law13_LampSpoilt_own started (by kernel_rfl) (by kernel_rfl)
    (ChangeSpec.witness_shaped (enc := enc) (C := Tryd.checked) (os := os) (X := fun w _ => laidMetH Tryd.prog Rows.lampSpoiltRow.laid w) false (World.laidAll Tryd.prog os Rows.lampSpoiltRow.laid) #[.agg (Array.replicate 32 (.int .u8 0)), .agg (Array.replicate 32 (.int .u8 0)), .int .i64 0, .int .u8 0] 8 (World.laidAll_os _ _ _)
      (World.shaped_of_ZipB (by kernel_rfl) (by kernel_rfl)) (by kernel_rfl) (by kernel_rfl) (by kernel_rfl)
      (by rw [MakeChecks.laidMetH_plain _ _ _ (by kernel_rfl)]; exact laidMet_laidAll _ (by kernel_rfl) (by kernel_rfl))) ?_
  intro W base args ds gs before hval hW _ hsz hL _
  exact M.law_contract (ss := [.arr .u8 32, .arr .u8 32, .sc .i, .sc .u8]) (G := M.theG) (c := M.law13_LampSpoilt_c) (tb := 4) rfl (fun ds h => by
      match ds, h with
      | [d0, d1, d2, d3], _ => rfl) (by kernel_rfl) (by kernel_rfl) (by kernel_rfl) (by kernel_rfl) (by kernel_rfl) M.law13_LampSpoilt_ok law13_LampSpoilt_law hval hW hsz (M.globs (by rwa [MakeChecks.laidMetH_plain _ _ _ (by kernel_rfl)] at hL))
theorem lampSpoilt_row : Rows.LampSpoiltSaid :=
  OpenClaim.holds_of_wide 10 Tryd.f10 rfl rfl rfl rfl rfl rfl rfl ⟨rfl, rfl, rfl, rfl, rfl⟩ rfl rfl rfl rfl rfl (by kernel_rfl) (by kernel_rfl) (by kernel_rfl)
    (of_decide_eq_true (by kernel_rfl)) (by unfold Func.isWrapper; first | (rw [if_pos (by decide +kernel)]; kernel_rfl) | (rw [if_neg (by decide +kernel)]; exact ⟨rfl, rfl⟩))
    (fun os started H enc _ => law13_LampSpoilt_lifted os started H enc)
theorem lampSpoilt_card : Rows.LampSpoiltCardSaid :=
  Claim7.holds_tied_plain_at .later [] [.data] true (true, "309ffbb7a45fc8f63b017b00e1d958320a56bfcbda7dd92db1a0903d53958375") false lampSpoilt_row (fun _ h => by cases h) (by kernel_rfl) (fun _ h => by cases h) lampSpoilt_row_tie rfl ⟨rfl, rfl⟩ (by kernel_rfl) rfl
    (fun f fn hf hfn => by
      obtain rfl : f = 10 := Option.some.inj ((show Tryd.prog.funcNamed "moneyer/moneyerlaw13.LampSpoilt" = some 10 by kernel_rfl).symm.trans hf) |>.symm
      obtain rfl : fn = Tryd.f10 := (Option.some.inj ((show Tryd.prog.funcs[10]? = some Tryd.f10 by kernel_rfl).symm.trans hfn)).symm
      exact ⟨by kernel_rfl, fun j t ht => by
        have hp : Tryd.f10.params = #[32, 32, 3, 5] := by kernel_rfl
        rw [hp] at ht
        have hm : t ∈ [32, 32, 3, 5] := by simpa using Array.mem_of_getElem? ht
        have hall : ([32, 32, 3, 5].all fun u => !Tryd.prog.wantsStandIn u) = true := by kernel_rfl
        exact (show Tryd.prog.wantsStandIn t = false by simpa using List.all_eq_true.1 hall t hm)⟩)
    (by kernel_rfl)
#print axioms lampSpoilt_card
end Go.Proofs.YtkjillpcmffgoaaDoor
