/- The statement of LampBack: for every input the law returns true, and each argument reads behind the call as it read before. No condition. -/
import Derived.KernelRfl
import Derived.Test.YtkjillpcmffgoaaDoorProg
import Derived.Test.YtkjillpcmffgoaaDoorRows
import Derived.Test.YtkjillpcmffgoaaDoorCards
import Derived.Test.YtkjillpcmffgoaaDoorTie
import Derived.WalkKit
import Derived.ProofKit
import Derived.Handy
import Derived.Lay
import Derived.SizedLaws
import Derived.SevenTiedAt
import Derived.Test.YtkjillpcmffgoaaDoorLe
import Derived.Test.YtkjillpcmffgoaaDoorFlamp
import Derived.Test.YtkjillpcmffgoaaDoorFlaw13
import Derived.Test.YtkjillpcmffgoaaDoorSwords
import Derived.Test.YtkjillpcmffgoaaDoorSshaS
import Derived.Test.YtkjillpcmffgoaaDoorSmerS
import Derived.Test.YtkjillpcmffgoaaDoorSlampS
import Derived.Test.YtkjillpcmffgoaaDoorSshaE
import Derived.Test.YtkjillpcmffgoaaDoorSshaK
import Derived.Test.YtkjillpcmffgoaaDoorSKL
set_option linter.unusedVariables false
set_option linter.unusedSimpArgs false
set_option autoImplicit false
namespace Go.Proofs.YtkjillpcmffgoaaDoor.M
open Go
noncomputable section
/-- the loop 0 of moneyer/moneyerlaw13.LampBack -/
def law13_LampBack_h0 : Nat → Int → (Vector UInt8 32) → (Vector UInt8 32) → (Vector UInt8 32) → (List UInt8) → Option (Bool)
  | 0, _, _, _, _, _ => none
  | k + 1, i, seed, d, other, s => bif decide (i < (4 : Int)) then (if ((0 : Int) ≤ i) ∧ (i < (32 : Int)) then
        law13_LampBack_h0 k (w64 (i + (1 : Int))) seed d (Vector.setIfInBounds other (Int.toNat i) (List.getD (Vector.toList d) (Int.toNat i) (0 : UInt8))) s
      else none)
      else (bif eqb (decide ((checkV (keyV seed) d s) = (0 : Int))) true then (bif eqb (bif true then (decide ((checkV (keyV seed) other s) = (0 : Int))) else false) true then (some true)
          else (some false))
        else (some false))
theorem law13_LampBack_h0_q (k : Nat) (i : Int) (seed : Vector UInt8 32) (d : Vector UInt8 32) (other : Vector UInt8 32) (s : List UInt8) : law13_LampBack_h0 (k + 1) i seed d other s =
  (bif decide (i < (4 : Int)) then (if ((0 : Int) ≤ i) ∧ (i < (32 : Int)) then
        law13_LampBack_h0 k (w64 (i + (1 : Int))) seed d (Vector.setIfInBounds other (Int.toNat i) (List.getD (Vector.toList d) (Int.toNat i) (0 : UInt8))) s
      else none)
      else (bif eqb (decide ((checkV (keyV seed) d s) = (0 : Int))) true then (bif eqb (bif true then (decide ((checkV (keyV seed) other s) = (0 : Int))) else false) true then (some true)
          else (some false))
        else (some false))) := by kernel_rfl
/-- moneyer/moneyerlaw13.LampBack -/
def law13_LampBack (k : Nat) (seed : Vector UInt8 32) (d : Vector UInt8 32) (other : Vector UInt8 32) : Option (Bool) :=
  law13_LampBack_h0 k (0 : Int) seed d other (sigL seed d)
theorem law13_LampBack_q (k : Nat) (seed : Vector UInt8 32) (d : Vector UInt8 32) (other : Vector UInt8 32) : law13_LampBack k seed d other = (law13_LampBack_h0 k (0 : Int) seed d other (sigL seed d)) := by kernel_rfl
theorem law13_LampBack_spec (seed d other : Vector UInt8 32) : Ev (fun k => law13_LampBack k seed d other) true := by
  refine Ev.same (fun k => law13_LampBack_q k seed d other) ?_
  have st : ∀ (i : Nat), i < 4 → ∀ (o : Vector UInt8 32) (s : List UInt8), Ev (fun k => law13_LampBack_h0 k (((i + 1 : Nat)) : Int) seed d (Vector.setIfInBounds o i (d.toList.getD i 0)) s) true → Ev (fun k => law13_LampBack_h0 k (i : Int) seed d o s) true := by
    intro i hi o s ih
    refine Ev.step (fun k => ?_) ih
    rw [law13_LampBack_h0_q, bif_pos (by omega), if_pos (by omega), w64_id (by omega) (by omega), Int.toNat_natCast]
    rfl
  refine st 0 (by omega) _ _ (st 1 (by omega) _ _ (st 2 (by omega) _ _ (st 3 (by omega) _ _ ?_)))
  refine Ev.done fun k => ?_
  have h1 : checkV (keyV seed) d (sigL seed d) = 0 := check_back seed d d fun _ _ => rfl
  rw [law13_LampBack_h0_q, bif_neg (by decide), h1]
  rw [check_back]
  · rfl
  · intro k _
    refine bitV_four (fun j hj => ?_) _
    rw [vget_set _ _ _ _ _ (by decide), vget_set _ _ _ _ _ (by decide), vget_set _ _ _ _ _ (by decide), vget_set _ _ _ _ _ (by decide)]
    match j, hj with
    | 0, _ => rfl
    | 1, _ => rfl
    | 2, _ => rfl
    | 3, _ => rfl

end
end Go.Proofs.YtkjillpcmffgoaaDoor.M

namespace Go.Proofs.YtkjillpcmffgoaaDoor.M
open Go
noncomputable section
set_option maxRecDepth 100000
set_option maxHeartbeats 0
noncomputable def law13_LampBack_T : Tbl := [(39, [], lamp_Sign_c), (37, [], lamp_Key_c), (42, [], lamp_Check_c), (41, [], law13_lives_c)]
noncomputable def law13_LampBack_C : CfgW := mkC Tryd.prog theG law13_LampBack_T 38 0 false
def law13_LampBack_lv : Nat → List Nat := fun i => bif Nat.beq i 0 then [3, 4, 5, 7, 8] else []
noncomputable abbrev law13_LampBack_b : Code := Tryd.f9.body.getD .skip
noncomputable abbrev law13_LampBack_r : List ResultVar := Tryd.f9.results.toList
def law13_LampBack_hs : List Nat := []

def law13_LampBack_enc (r : Bool) : CallOut := ⟨.pv (.sc .b r), [], true, []⟩
def law13_LampBack_s0 (i : Int) (seed : Vector UInt8 32) (d : Vector UInt8 32) (other : Vector UInt8 32) (s : List UInt8) : St := ⟨[(3, .p 60000 []), (4, .p 60001 []), (5, .p 60002 []), (7, .o 60003), (8, .pv (.sc .i i))], [(60000, .box (.pv (.arr .u8 32 seed))), (60001, .box (.pv (.arr .u8 32 d))), (60002, .box (.pv (.arr .u8 32 other))), (60003, .row (.s .u8 s) false)]⟩
theorem law13_LampBack_g0 (i : Int) (seed : Vector UInt8 32) (d : Vector UInt8 32) (other : Vector UInt8 32) (s : List UInt8) (Q : CallOut → Prop) : headRound law13_LampBack_C law13_LampBack_lv [true, true, false, true, false] law13_LampBack_b (law13_LampBack_s0 i seed d other s) (fnK law13_LampBack_C law13_LampBack_r law13_LampBack_hs Q) =
    (condP (decide (i < (4 : Int))) ((((0 : Int) ≤ i) ∧ (i < (32 : Int))) ∧ ((((0 : Int) ≤ i) ∧ (i < (32 : Int))) ∧ (headP law13_LampBack_C law13_LampBack_lv [true, true, false, true, false] law13_LampBack_b (law13_LampBack_s0 (w64 (i + (1 : Int))) seed d (Vector.setIfInBounds other (Int.toNat i) (List.getD (Vector.toList d) (Int.toNat i) (0 : UInt8))) s) (fnK law13_LampBack_C law13_LampBack_r law13_LampBack_hs Q)))) (condP (eqb (decide ((checkV (keyV seed) d s) = (0 : Int))) true) (condP (eqb (bif true then (decide ((checkV (keyV seed) other s) = (0 : Int))) else false) true) (Q (law13_LampBack_enc true)) (Q (law13_LampBack_enc false))) (Q (law13_LampBack_enc false)))) := by kernel_rfl
theorem law13_LampBack_k0 {r : Bool} {Q : CallOut → Prop} (hQ : Q (law13_LampBack_enc r)) : ∀ k : Nat, (∀ (i : Int) (seed : Vector UInt8 32) (d : Vector UInt8 32) (other : Vector UInt8 32) (s : List UInt8), law13_LampBack_h0 k i seed d other s = some r → headP law13_LampBack_C law13_LampBack_lv [true, true, false, true, false] law13_LampBack_b (law13_LampBack_s0 i seed d other s) (fnK law13_LampBack_C law13_LampBack_r law13_LampBack_hs Q))
  | 0 => fun _ _ _ _ _ h => no_ok h
  | k + 1 => fun i seed d other s h => headP_step (Eq.mpr (law13_LampBack_g0 i seed d other s Q) (have h := (law13_LampBack_h0_q k i seed d other s).symm.trans h; cond_ok h (fun h => ite_ok h fun hc0 h => ⟨hc0, (law13_LampBack_k0 hQ k) _ _ _ _ _ h⟩) (fun h => cond_ok h (fun h => cond_ok h (fun h => ret_ok (Q := Q) (e := law13_LampBack_enc) h hQ) (fun h => ret_ok (Q := Q) (e := law13_LampBack_enc) h hQ)) (fun h => ret_ok (Q := Q) (e := law13_LampBack_enc) h hQ))))
theorem law13_LampBack_e (seed : Vector UInt8 32) (d : Vector UInt8 32) (other : Vector UInt8 32) (Q : CallOut → Prop) : evalFnP law13_LampBack_C law13_LampBack_lv law13_LampBack_r law13_LampBack_hs law13_LampBack_b [.pv (.arr .u8 32 seed), .pv (.arr .u8 32 d), .pv (.arr .u8 32 other)] [] Q =
    (headP law13_LampBack_C law13_LampBack_lv [true, true, false, true, false] law13_LampBack_b (law13_LampBack_s0 (0 : Int) seed d other (sigL seed d)) (fnK law13_LampBack_C law13_LampBack_r law13_LampBack_hs Q)) := by kernel_rfl
theorem law13_LampBack_w {k : Nat} (seed : Vector UInt8 32) (d : Vector UInt8 32) (other : Vector UInt8 32) {r} {Q : CallOut → Prop} (h : law13_LampBack k seed d other = some r) (hQ : Q (law13_LampBack_enc r)) : evalFnP law13_LampBack_C law13_LampBack_lv law13_LampBack_r law13_LampBack_hs law13_LampBack_b [.pv (.arr .u8 32 seed), .pv (.arr .u8 32 d), .pv (.arr .u8 32 other)] [] Q :=
  Eq.mpr (law13_LampBack_e seed d other Q) (have h := (law13_LampBack_q k seed d other).symm.trans h; (law13_LampBack_k0 hQ _) _ _ _ _ _ h)
def law13_LampBack_c : Ans
  | [.pv (.arr .u8 32 seed), .pv (.arr .u8 32 d), .pv (.arr .u8 32 other)], [] => some (none, law13_LampBack_enc (true))
  | _, _ => none
theorem law13_LampBack_tok : TblOK Tryd.prog theG law13_LampBack_T := .cons ⟨by kernel_rfl, lamp_Sign_ok⟩ (.cons ⟨by kernel_rfl, lamp_Key_ok⟩ (.cons ⟨by kernel_rfl, lamp_Check_ok⟩ (.cons ⟨by kernel_rfl, law13_lives_ok⟩ (.nil))))
theorem law13_LampBack_ok : FnOK Tryd.prog theG 9 (unW law13_LampBack_c) := by
  refine FnOK.ofC (T := law13_LampBack_T) (nt := 38) (np := 0) (mv := []) (nf := false) (hs := law13_LampBack_hs) (fn := Tryd.f9) (body := law13_LampBack_b) law13_LampBack_tok (by kernel_rfl) (by kernel_rfl) (by kernel_rfl) (by kernel_rfl) (c := law13_LampBack_c) (lv := law13_LampBack_lv) ?_
  intro xs mem p out h hp
  unfold law13_LampBack_c at h
  split at h
  · cases h
    obtain ⟨k, hk⟩ := law13_LampBack_spec _ _ _
    exact law13_LampBack_w _ _ _ hk rfl
  · cases h
end
end Go.Proofs.YtkjillpcmffgoaaDoor.M

namespace Go.Proofs.YtkjillpcmffgoaaDoor
open Go Go.ChangeShapes Go.WideShapes Go.ChangeAt Go.RowKit
open Go.Proofs.YtkjillpcmffgoaaDoor
theorem law13_LampBack_own : ownKnob Tryd.prog.godebug = none := by kernel_rfl
theorem law13_LampBack_law : ∀ ys : List M.PV, M.FitL [.arr .u8 32, .arr .u8 32, .arr .u8 32] ys → ∃ p out, M.law13_LampBack_c (ys.map .pv) [] = some (p, out) ∧ p.h ∧ out.val = .pv (.sc .b true) := by
  rintro ys ⟨_, _, rfl, ⟨x0, rfl, hx0⟩, ⟨_, _, rfl, ⟨x1, rfl, hx1⟩, ⟨_, _, rfl, ⟨x2, rfl, hx2⟩, rfl⟩⟩⟩
  exact ⟨_, _, rfl, trivial, rfl⟩
set_option maxRecDepth 100000 in
theorem law13_LampBack_lifted (os : Os) (started : os.Started) (H : Type) (enc : TypeId × Value → H) :
    ReturnsInHanded {} Tryd.checked os 9 .any (fun w args => (Rows.lampBackSpec.pre enc Tryd.prog Tryd.f9 [] false w args ∧ laidMetH Tryd.prog Rows.lampBackRow.laid w) ∧ sizedMet enc Tryd.prog Tryd.f9 (OpenSpec.ofChange Rows.lampBackSpec) false w args)
      (Rows.lampBackSpec.post enc Tryd.prog Tryd.f9 false true false false) := by
  refine returnsInHanded_of_change_and (C := Tryd.checked) (X := fun w _ => laidMetH Tryd.prog Rows.lampBackRow.laid w) (fun _ _ _ hh h => h.of_heap hh) law13_LampBack_own started (by kernel_rfl) (by kernel_rfl)
    (ChangeSpec.witness_shaped (enc := enc) (C := Tryd.checked) (os := os) (X := fun w _ => laidMetH Tryd.prog Rows.lampBackRow.laid w) false (World.laidAll Tryd.prog os Rows.lampBackRow.laid) #[.agg (Array.replicate 32 (.int .u8 0)), .agg (Array.replicate 32 (.int .u8 0)), .agg (Array.replicate 32 (.int .u8 0))] 8 (World.laidAll_os _ _ _)
      (World.shaped_of_ZipB (by kernel_rfl) (by kernel_rfl)) (by kernel_rfl) (by kernel_rfl) (by kernel_rfl)
      (by rw [MakeChecks.laidMetH_plain _ _ _ (by kernel_rfl)]; exact laidMet_laidAll _ (by kernel_rfl) (by kernel_rfl))) ?_
  intro W base args ds gs before hval hW _ hsz hL _
  exact M.law_contract (ss := [.arr .u8 32, .arr .u8 32, .arr .u8 32]) (G := M.theG) (c := M.law13_LampBack_c) (tb := 4) rfl (fun ds h => by
      match ds, h with
      | [d0, d1, d2], _ => rfl) (by kernel_rfl) (by kernel_rfl) (by kernel_rfl) (by kernel_rfl) (by kernel_rfl) M.law13_LampBack_ok law13_LampBack_law hval hW hsz (M.globs (by rwa [MakeChecks.laidMetH_plain _ _ _ (by kernel_rfl)] at hL))
theorem lampBack_row : Rows.LampBackSaid :=
  OpenClaim.holds_of_wide 9 Tryd.f9 rfl rfl rfl rfl rfl rfl rfl ⟨rfl, rfl, rfl, rfl, rfl⟩ rfl rfl rfl rfl rfl (by kernel_rfl) (by kernel_rfl) (by kernel_rfl)
    (of_decide_eq_true (by kernel_rfl)) (by unfold Func.isWrapper; first | (rw [if_pos (by decide +kernel)]; kernel_rfl) | (rw [if_neg (by decide +kernel)]; exact ⟨rfl, rfl⟩))
    (fun os started H enc _ => law13_LampBack_lifted os started H enc)
theorem lampBack_card : Rows.LampBackCardSaid :=
  Claim7.holds_tied_plain_at .later [] [.data] true (true, "309ffbb7a45fc8f63b017b00e1d958320a56bfcbda7dd92db1a0903d53958375") false lampBack_row (fun _ h => by cases h) (by kernel_rfl) (fun _ h => by cases h) lampBack_row_tie rfl ⟨rfl, rfl⟩ (by kernel_rfl) rfl
    (fun f fn hf hfn => by
      obtain rfl : f = 9 := Option.some.inj ((show Tryd.prog.funcNamed "moneyer/moneyerlaw13.LampBack" = some 9 by kernel_rfl).symm.trans hf) |>.symm
      obtain rfl : fn = Tryd.f9 := (Option.some.inj ((show Tryd.prog.funcs[9]? = some Tryd.f9 by kernel_rfl).symm.trans hfn)).symm
      exact ⟨by kernel_rfl, fun j t ht => by
        have hp : Tryd.f9.params = #[32, 32, 32] := by kernel_rfl
        rw [hp] at ht
        have hm : t ∈ [32, 32, 32] := by simpa using Array.mem_of_getElem? ht
        have hall : ([32, 32, 32].all fun u => !Tryd.prog.wantsStandIn u) = true := by kernel_rfl
        exact (show Tryd.prog.wantsStandIn t = false by simpa using List.all_eq_true.1 hall t hm)⟩)
    (by kernel_rfl)
#print axioms lampBack_card
end Go.Proofs.YtkjillpcmffgoaaDoor
