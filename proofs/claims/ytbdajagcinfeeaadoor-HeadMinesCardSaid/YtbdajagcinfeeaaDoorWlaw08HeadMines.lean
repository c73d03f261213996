/- The statement of HeadMines: for every input the law returns true, and each argument reads behind the call as it read before. No condition. -/
import Derived.KernelRfl
import Derived.Test.YtbdajagcinfeeaaDoorProg
import Derived.Test.YtbdajagcinfeeaaDoorRows
import Derived.Test.YtbdajagcinfeeaaDoorCards
import Derived.Test.YtbdajagcinfeeaaDoorTie
import Derived.WalkKit
import Derived.ProofKit
import Derived.Handy
import Derived.Lay
import Derived.SizedLaws
import Derived.SevenTiedAt
import Derived.Test.YtbdajagcinfeeaaDoorLe
import Derived.Test.YtbdajagcinfeeaaDoorFhead
import Derived.Test.YtbdajagcinfeeaaDoorFref08
import Derived.Test.YtbdajagcinfeeaaDoorFlaw08
import Derived.Test.YtbdajagcinfeeaaDoorSwords
import Derived.Test.YtbdajagcinfeeaaDoorSshaS
import Derived.Test.YtbdajagcinfeeaaDoorSbigS
import Derived.Test.YtbdajagcinfeeaaDoorSendS
import Derived.Test.YtbdajagcinfeeaaDoorStarS
import Derived.Test.YtbdajagcinfeeaaDoorSheadS
import Derived.Test.YtbdajagcinfeeaaDoorSshaK
import Derived.Test.YtbdajagcinfeeaaDoorSKL
set_option linter.unusedVariables false
set_option linter.unusedSimpArgs false
set_option autoImplicit false
namespace Go.Proofs.YtbdajagcinfeeaaDoor.M
open Go
noncomputable section
/-- moneyer/moneyerlaw08.HeadMines -/
def law08_HeadMines (h_0_Prev : Vector UInt8 32) (h_0_Root : Vector UInt8 32) (h_0_Time : UInt32) (h_0_Bits : UInt32) (h_0_Nonce : UInt32) (tries : UInt8) : Bool :=
  bif eqb ((decide ((Vector.toList (mnV h_0_Prev h_0_Root h_0_Time h_0_Bits h_0_Nonce (UInt8.toUInt32 (tries % (21 : UInt8))) h_0_Prev)) = (Vector.toList (mnV h_0_Prev h_0_Root h_0_Time h_0_Bits h_0_Nonce (UInt8.toUInt32 (tries % (21 : UInt8))) h_0_Prev)))) && ((decide ((Vector.toList (mnV h_0_Prev h_0_Root h_0_Time h_0_Bits h_0_Nonce (UInt8.toUInt32 (tries % (21 : UInt8))) h_0_Root)) = (Vector.toList (mnV h_0_Prev h_0_Root h_0_Time h_0_Bits h_0_Nonce (UInt8.toUInt32 (tries % (21 : UInt8))) h_0_Root)))) && ((decide ((mnW h_0_Prev h_0_Root h_0_Time h_0_Bits h_0_Nonce (UInt8.toUInt32 (tries % (21 : UInt8))) h_0_Time) = (mnW h_0_Prev h_0_Root h_0_Time h_0_Bits h_0_Nonce (UInt8.toUInt32 (tries % (21 : UInt8))) h_0_Time))) && ((decide ((mnW h_0_Prev h_0_Root h_0_Time h_0_Bits h_0_Nonce (UInt8.toUInt32 (tries % (21 : UInt8))) h_0_Bits) = (mnW h_0_Prev h_0_Root h_0_Time h_0_Bits h_0_Nonce (UInt8.toUInt32 (tries % (21 : UInt8))) h_0_Bits))) && ((decide ((mnN h_0_Prev h_0_Root h_0_Time h_0_Bits h_0_Nonce (UInt8.toUInt32 (tries % (21 : UInt8)))) = (mnN h_0_Prev h_0_Root h_0_Time h_0_Bits h_0_Nonce (UInt8.toUInt32 (tries % (21 : UInt8)))))) && true))))) true then (bif eqb (bif true then (decide ((mnE h_0_Prev h_0_Root h_0_Time h_0_Bits h_0_Nonce (UInt8.toUInt32 (tries % (21 : UInt8)))) = (mnE h_0_Prev h_0_Root h_0_Time h_0_Bits h_0_Nonce (UInt8.toUInt32 (tries % (21 : UInt8)))))) else false) true then (true)
      else (false))
    else (false)
theorem law08_HeadMines_q (h_0_Prev : Vector UInt8 32) (h_0_Root : Vector UInt8 32) (h_0_Time : UInt32) (h_0_Bits : UInt32) (h_0_Nonce : UInt32) (tries : UInt8) : law08_HeadMines h_0_Prev h_0_Root h_0_Time h_0_Bits h_0_Nonce tries = (bif eqb ((decide ((Vector.toList (mnV h_0_Prev h_0_Root h_0_Time h_0_Bits h_0_Nonce (UInt8.toUInt32 (tries % (21 : UInt8))) h_0_Prev)) = (Vector.toList (mnV h_0_Prev h_0_Root h_0_Time h_0_Bits h_0_Nonce (UInt8.toUInt32 (tries % (21 : UInt8))) h_0_Prev)))) && ((decide ((Vector.toList (mnV h_0_Prev h_0_Root h_0_Time h_0_Bits h_0_Nonce (UInt8.toUInt32 (tries % (21 : UInt8))) h_0_Root)) = (Vector.toList (mnV h_0_Prev h_0_Root h_0_Time h_0_Bits h_0_Nonce (UInt8.toUInt32 (tries % (21 : UInt8))) h_0_Root)))) && ((decide ((mnW h_0_Prev h_0_Root h_0_Time h_0_Bits h_0_Nonce (UInt8.toUInt32 (tries % (21 : UInt8))) h_0_Time) = (mnW h_0_Prev h_0_Root h_0_Time h_0_Bits h_0_Nonce (UInt8.toUInt32 (tries % (21 : UInt8))) h_0_Time))) && ((decide ((mnW h_0_Prev h_0_Root h_0_Time h_0_Bits h_0_Nonce (UInt8.toUInt32 (tries % (21 : UInt8))) h_0_Bits) = (mnW h_0_Prev h_0_Root h_0_Time h_0_Bits h_0_Nonce (UInt8.toUInt32 (tries % (21 : UInt8))) h_0_Bits))) && ((decide ((mnN h_0_Prev h_0_Root h_0_Time h_0_Bits h_0_Nonce (UInt8.toUInt32 (tries % (21 : UInt8)))) = (mnN h_0_Prev h_0_Root h_0_Time h_0_Bits h_0_Nonce (UInt8.toUInt32 (tries % (21 : UInt8)))))) && true))))) true then (bif eqb (bif true then (decide ((mnE h_0_Prev h_0_Root h_0_Time h_0_Bits h_0_Nonce (UInt8.toUInt32 (tries % (21 : UInt8)))) = (mnE h_0_Prev h_0_Root h_0_Time h_0_Bits h_0_Nonce (UInt8.toUInt32 (tries % (21 : UInt8)))))) else false) true then (true)
      else (false))
    else (false)) := by kernel_rfl
theorem law08_HeadMines_spec (p r : Vector UInt8 32) (t b n : UInt32) (k : UInt8) : law08_HeadMines p r t b n k = true := by
  rw [law08_HeadMines_q]
  simp only [decide_true, Bool.and_true, eqb, cond_true]

end
end Go.Proofs.YtbdajagcinfeeaaDoor.M

namespace Go.Proofs.YtbdajagcinfeeaaDoor.M
open Go
noncomputable section
set_option maxRecDepth 100000
set_option maxHeartbeats 0
noncomputable def law08_HeadMines_T : Tbl := [(32, [], head_Mine_c), (33, [], ref08_Mine_c), (27, [], law08_works_c)]
noncomputable def law08_HeadMines_C : CfgW := mkC Tryd.prog theG law08_HeadMines_T 36 0 false
def law08_HeadMines_lv : Nat → List Nat := fun i => []
noncomputable abbrev law08_HeadMines_b : Code := Tryd.f9.body.getD .skip
noncomputable abbrev law08_HeadMines_r : List ResultVar := Tryd.f9.results.toList
def law08_HeadMines_hs : List Nat := []

def law08_HeadMines_enc (r : Bool) : CallOut := ⟨.pv (.sc .b r), [], true, []⟩
theorem law08_HeadMines_e (h_0_Prev : Vector UInt8 32) (h_0_Root : Vector UInt8 32) (h_0_Time : UInt32) (h_0_Bits : UInt32) (h_0_Nonce : UInt32) (tries : UInt8) (Q : CallOut → Prop) : evalFnP law08_HeadMines_C law08_HeadMines_lv law08_HeadMines_r law08_HeadMines_hs law08_HeadMines_b [.pv (.st [.arr .u8 32 h_0_Prev, .arr .u8 32 h_0_Root, .sc .u32 h_0_Time, .sc .u32 h_0_Bits, .sc .u32 h_0_Nonce]), .pv (.sc .u8 tries)] [] Q =
    (((21 : UInt8) ≠ (0 : UInt8)) ∧ (condP (eqb ((decide ((Vector.toList (mnV h_0_Prev h_0_Root h_0_Time h_0_Bits h_0_Nonce (UInt8.toUInt32 (tries % (21 : UInt8))) h_0_Prev)) = (Vector.toList (mnV h_0_Prev h_0_Root h_0_Time h_0_Bits h_0_Nonce (UInt8.toUInt32 (tries % (21 : UInt8))) h_0_Prev)))) && ((decide ((Vector.toList (mnV h_0_Prev h_0_Root h_0_Time h_0_Bits h_0_Nonce (UInt8.toUInt32 (tries % (21 : UInt8))) h_0_Root)) = (Vector.toList (mnV h_0_Prev h_0_Root h_0_Time h_0_Bits h_0_Nonce (UInt8.toUInt32 (tries % (21 : UInt8))) h_0_Root)))) && ((decide ((mnW h_0_Prev h_0_Root h_0_Time h_0_Bits h_0_Nonce (UInt8.toUInt32 (tries % (21 : UInt8))) h_0_Time) = (mnW h_0_Prev h_0_Root h_0_Time h_0_Bits h_0_Nonce (UInt8.toUInt32 (tries % (21 : UInt8))) h_0_Time))) && ((decide ((mnW h_0_Prev h_0_Root h_0_Time h_0_Bits h_0_Nonce (UInt8.toUInt32 (tries % (21 : UInt8))) h_0_Bits) = (mnW h_0_Prev h_0_Root h_0_Time h_0_Bits h_0_Nonce (UInt8.toUInt32 (tries % (21 : UInt8))) h_0_Bits))) && ((decide ((mnN h_0_Prev h_0_Root h_0_Time h_0_Bits h_0_Nonce (UInt8.toUInt32 (tries % (21 : UInt8)))) = (mnN h_0_Prev h_0_Root h_0_Time h_0_Bits h_0_Nonce (UInt8.toUInt32 (tries % (21 : UInt8)))))) && true))))) true) (condP (eqb (bif true then (decide ((mnE h_0_Prev h_0_Root h_0_Time h_0_Bits h_0_Nonce (UInt8.toUInt32 (tries % (21 : UInt8)))) = (mnE h_0_Prev h_0_Root h_0_Time h_0_Bits h_0_Nonce (UInt8.toUInt32 (tries % (21 : UInt8)))))) else false) true) (Q (law08_HeadMines_enc true)) (Q (law08_HeadMines_enc false))) (Q (law08_HeadMines_enc false)))) := by kernel_rfl
theorem law08_HeadMines_w (h_0_Prev : Vector UInt8 32) (h_0_Root : Vector UInt8 32) (h_0_Time : UInt32) (h_0_Bits : UInt32) (h_0_Nonce : UInt32) (tries : UInt8) {Q : CallOut → Prop} (h : Q (law08_HeadMines_enc (law08_HeadMines h_0_Prev h_0_Root h_0_Time h_0_Bits h_0_Nonce tries))) : evalFnP law08_HeadMines_C law08_HeadMines_lv law08_HeadMines_r law08_HeadMines_hs law08_HeadMines_b [.pv (.st [.arr .u8 32 h_0_Prev, .arr .u8 32 h_0_Root, .sc .u32 h_0_Time, .sc .u32 h_0_Bits, .sc .u32 h_0_Nonce]), .pv (.sc .u8 tries)] [] Q :=
  Eq.mpr (law08_HeadMines_e h_0_Prev h_0_Root h_0_Time h_0_Bits h_0_Nonce tries Q) (have h := Eq.mp (congrArg (fun r => Q (law08_HeadMines_enc r)) (law08_HeadMines_q h_0_Prev h_0_Root h_0_Time h_0_Bits h_0_Nonce tries)) h; ⟨by decide +kernel, cond_ok2 (Q := fun r => Q (law08_HeadMines_enc r)) h (fun h => cond_ok2 (Q := fun r => Q (law08_HeadMines_enc r)) h (fun h => h) (fun h => h)) (fun h => h)⟩)
def law08_HeadMines_c : Ans
  | [.pv (.st [.arr .u8 32 h_0_Prev, .arr .u8 32 h_0_Root, .sc .u32 h_0_Time, .sc .u32 h_0_Bits, .sc .u32 h_0_Nonce]), .pv (.sc .u8 tries)], [] => some (none, law08_HeadMines_enc (true))
  | _, _ => none
theorem law08_HeadMines_tok : TblOK Tryd.prog theG law08_HeadMines_T := .cons ⟨by kernel_rfl, head_Mine_ok⟩ (.cons ⟨by kernel_rfl, ref08_Mine_ok⟩ (.cons ⟨by kernel_rfl, law08_works_ok⟩ (.nil)))
theorem law08_HeadMines_ok : FnOK Tryd.prog theG 9 (unW law08_HeadMines_c) := by
  refine FnOK.ofC (T := law08_HeadMines_T) (nt := 36) (np := 0) (mv := []) (nf := false) (hs := law08_HeadMines_hs) (fn := Tryd.f9) (body := law08_HeadMines_b) law08_HeadMines_tok (by kernel_rfl) (by kernel_rfl) (by kernel_rfl) (by kernel_rfl) (c := law08_HeadMines_c) (lv := law08_HeadMines_lv) ?_
  intro xs mem p out h hp
  unfold law08_HeadMines_c at h
  split at h
  · cases h
    exact law08_HeadMines_w _ _ _ _ _ _ (congrArg law08_HeadMines_enc (law08_HeadMines_spec _ _ _ _ _ _))
  · cases h
end
end Go.Proofs.YtbdajagcinfeeaaDoor.M

namespace Go.Proofs.YtbdajagcinfeeaaDoor
open Go Go.ChangeShapes Go.WideShapes Go.ChangeAt Go.RowKit
open Go.Proofs.YtbdajagcinfeeaaDoor
theorem law08_HeadMines_own : ownKnob Tryd.prog.godebug = none := by kernel_rfl
theorem law08_HeadMines_law : ∀ ys : List M.PV, M.FitL [.st [.arr .u8 32, .arr .u8 32, .sc .u32, .sc .u32, .sc .u32], .sc .u8] ys → ∃ p out, M.law08_HeadMines_c (ys.map .pv) [] = some (p, out) ∧ p.h ∧ out.val = .pv (.sc .b true) := by
  rintro ys ⟨_, _, rfl, ⟨_, rfl, ⟨_, _, rfl, ⟨x0_Prev, rfl, hx0_Prev⟩, ⟨_, _, rfl, ⟨x0_Root, rfl, hx0_Root⟩, ⟨_, _, rfl, ⟨x0_Time, rfl, hx0_Time⟩, ⟨_, _, rfl, ⟨x0_Bits, rfl, hx0_Bits⟩, ⟨_, _, rfl, ⟨x0_Nonce, rfl, hx0_Nonce⟩, rfl⟩⟩⟩⟩⟩⟩, ⟨_, _, rfl, ⟨x1, rfl, hx1⟩, rfl⟩⟩
  exact ⟨_, _, rfl, trivial, rfl⟩
set_option maxRecDepth 100000 in
theorem law08_HeadMines_lifted (os : Os) (started : os.Started) (H : Type) (enc : TypeId × Value → H) :
    ReturnsInHanded {} Tryd.checked os 9 .any (fun w args => (Rows.headMinesSpec.pre enc Tryd.prog Tryd.f9 [] false w args ∧ laidMetH Tryd.prog Rows.headMinesRow.laid w) ∧ sizedMet enc Tryd.prog Tryd.f9 (OpenSpec.ofChange Rows.headMinesSpec) false w args)
      (Rows.headMinesSpec.post enc Tryd.prog Tryd.f9 false true false false) := by
  refine returnsInHanded_of_change_and (C := Tryd.checked) (X := fun w _ => laidMetH Tryd.prog Rows.headMinesRow.laid w) (fun _ _ _ hh h => h.of_heap hh) law08_HeadMines_own started (by kernel_rfl) (by kernel_rfl)
    (ChangeSpec.witness_shaped (enc := enc) (C := Tryd.checked) (os := os) (X := fun w _ => laidMetH Tryd.prog Rows.headMinesRow.laid w) false (World.laidAll Tryd.prog os Rows.headMinesRow.laid) #[.agg #[.int .u8 0, .int .u8 0, .int .u8 0, .int .u8 0, .int .u8 0, .int .u8 0, .int .u8 0, .int .u8 0, .int .u8 0, .int .u8 0, .int .u8 0, .int .u8 0, .int .u8 0, .int .u8 0, .int .u8 0, .int .u8 0, .int .u8 0, .int .u8 0, .int .u8 0, .int .u8 0, .int .u8 0, .int .u8 0, .int .u8 0, .int .u8 0, .int .u8 0, .int .u8 0, .int .u8 0, .int .u8 0, .int .u8 0, .int .u8 0, .int .u8 0, .int .u8 0, .int .u8 0, .int .u8 0, .int .u8 0, .int .u8 0, .int .u8 0, .int .u8 0, .int .u8 0, .int .u8 0, .int .u8 0, .int .u8 0, .int .u8 0, .int .u8 0, .int .u8 0, .int .u8 0, .int .u8 0, .int .u8 0, .int .u8 0, .int .u8 0, .int .u8 0, .int .u8 0, .int .u8 0, .int .u8 0, .int .u8 0, .int .u8 0, .int .u8 0, .int .u8 0, .int .u8 0, .int .u8 0, .int .u8 0, .int .u8 0, .int .u8 0, .int .u8 0, .int .u32 0, .int .u32 0, .int .u32 0], .int .u8 0] 8 (World.laidAll_os _ _ _)
      (World.shaped_of_ZipB (by kernel_rfl) (by kernel_rfl)) (by kernel_rfl) (by kernel_rfl) (by kernel_rfl)
      (by rw [MakeChecks.laidMetH_plain _ _ _ (by kernel_rfl)]; exact laidMet_laidAll _ (by kernel_rfl) (by kernel_rfl))) ?_
  intro W base args ds gs before hval hW _ hsz hL _
  exact M.law_contract (ss := [.st [.arr .u8 32, .arr .u8 32, .sc .u32, .sc .u32, .sc .u32], .sc .u8]) (G := M.theG) (c := M.law08_HeadMines_c) (tb := 4) rfl (fun ds h => by
      match ds, h with
      | [d0, d1], _ => rfl) (by kernel_rfl) (by kernel_rfl) (by kernel_rfl) (by kernel_rfl) (by kernel_rfl) M.law08_HeadMines_ok law08_HeadMines_law hval hW hsz (M.globs (by rwa [MakeChecks.laidMetH_plain _ _ _ (by kernel_rfl)] at hL))
theorem headMines_row : Rows.HeadMinesSaid :=
  OpenClaim.holds_of_wide 9 Tryd.f9 rfl rfl rfl rfl rfl rfl rfl ⟨rfl, rfl, rfl, rfl, rfl⟩ rfl rfl rfl rfl rfl (by kernel_rfl) (by kernel_rfl) (by kernel_rfl)
    (of_decide_eq_true (by kernel_rfl)) (by unfold Func.isWrapper; first | (rw [if_pos (by decide +kernel)]; kernel_rfl) | (rw [if_neg (by decide +kernel)]; exact ⟨rfl, rfl⟩))
    (fun os started H enc _ => law08_HeadMines_lifted os started H enc)
theorem headMines_card : Rows.HeadMinesCardSaid :=
  Claim7.holds_tied_plain_at .later [] [.data] true (true, "3f586422b4bcc8e156c7a75eeef5cb184319f97d1faa08789495172fa4ab45b4") false headMines_row (fun _ h => by cases h) (by kernel_rfl) (fun _ h => by cases h) headMines_row_tie rfl ⟨rfl, rfl⟩ (by kernel_rfl) rfl
    (fun f fn hf hfn => by
      obtain rfl : f = 9 := Option.some.inj ((show Tryd.prog.funcNamed "moneyer/moneyerlaw08.HeadMines" = some 9 by kernel_rfl).symm.trans hf) |>.symm
      obtain rfl : fn = Tryd.f9 := (Option.some.inj ((show Tryd.prog.funcs[9]? = some Tryd.f9 by kernel_rfl).symm.trans hfn)).symm
      exact ⟨by kernel_rfl, fun j t ht => by
        have hp : Tryd.f9.params = #[40, 5] := by kernel_rfl
        rw [hp] at ht
        have hm : t ∈ [40, 5] := by simpa using Array.mem_of_getElem? ht
        have hall : ([40, 5].all fun u => !Tryd.prog.wantsStandIn u) = true := by kernel_rfl
        exact (show Tryd.prog.wantsStandIn t = false by simpa using List.all_eq_true.1 hall t hm)⟩)
    (by kernel_rfl)
#print axioms headMines_card
end Go.Proofs.YtbdajagcinfeeaaDoor
