/- The statement of HeadPuts: for every input the law returns true, and each argument reads behind the call as it read before. No condition. -/
import Derived.KernelRfl
import Derived.Test.YtbdajagcinfeeaaDoorProg
import Derived.Test.YtbdajagcinfeeaaDoorRows
import Derived.Test.YtbdajagcinfeeaaDoorCards
import Derived.Test.YtbdajagcinfeeaaDoorTie
import Derived.WalkKit
import Derived.ProofKit
import Derived.Handy
import Derived.Lay
import Derived.SizedLaws
import Derived.SevenTiedAt
import Derived.Test.YtbdajagcinfeeaaDoorLe
import Derived.Test.YtbdajagcinfeeaaDoorFhead
import Derived.Test.YtbdajagcinfeeaaDoorFref08
import Derived.Test.YtbdajagcinfeeaaDoorFref00
import Derived.Test.YtbdajagcinfeeaaDoorFlaw08
import Derived.Test.YtbdajagcinfeeaaDoorSwords
import Derived.Test.YtbdajagcinfeeaaDoorSshaS
import Derived.Test.YtbdajagcinfeeaaDoorSbigS
import Derived.Test.YtbdajagcinfeeaaDoorSendS
import Derived.Test.YtbdajagcinfeeaaDoorStarS
import Derived.Test.YtbdajagcinfeeaaDoorSshaK
import Derived.Test.YtbdajagcinfeeaaDoorSKL
set_option linter.unusedVariables false
set_option linter.unusedSimpArgs false
set_option autoImplicit false
namespace Go.Proofs.YtbdajagcinfeeaaDoor.M
open Go
noncomputable section
/-- moneyer/moneyerlaw08.HeadPuts -/
def law08_HeadPuts (h_0_Prev : Vector UInt8 32) (h_0_Root : Vector UInt8 32) (h_0_Time : UInt32) (h_0_Bits : UInt32) (h_0_Nonce : UInt32) : Option (Bool) :=
  if (List.length (headB h_0_Prev h_0_Root h_0_Time h_0_Bits h_0_Nonce)) ≤ (1152921504606846976 : Nat) then
    bif eqb (decide ((headB h_0_Prev h_0_Root h_0_Time h_0_Bits h_0_Nonce) = (headB h_0_Prev h_0_Root h_0_Time h_0_Bits h_0_Nonce))) true then (bif eqb (bif true then (decide ((Vector.toList (idV h_0_Prev h_0_Root h_0_Time h_0_Bits h_0_Nonce)) = (Vector.toList (idV h_0_Prev h_0_Root h_0_Time h_0_Bits h_0_Nonce)))) else false) true then (bif eqb (bif true then (decide ((meetsS (idV h_0_Prev h_0_Root h_0_Time h_0_Bits h_0_Nonce) h_0_Bits) = (meetsS (idV h_0_Prev h_0_Root h_0_Time h_0_Bits h_0_Nonce) h_0_Bits))) else false) true then (some true)
          else (some false))
        else (some false))
      else (some false)
  else none
theorem law08_HeadPuts_q (h_0_Prev : Vector UInt8 32) (h_0_Root : Vector UInt8 32) (h_0_Time : UInt32) (h_0_Bits : UInt32) (h_0_Nonce : UInt32) : law08_HeadPuts h_0_Prev h_0_Root h_0_Time h_0_Bits h_0_Nonce = (if (List.length (headB h_0_Prev h_0_Root h_0_Time h_0_Bits h_0_Nonce)) ≤ (1152921504606846976 : Nat) then
    bif eqb (decide ((headB h_0_Prev h_0_Root h_0_Time h_0_Bits h_0_Nonce) = (headB h_0_Prev h_0_Root h_0_Time h_0_Bits h_0_Nonce))) true then (bif eqb (bif true then (decide ((Vector.toList (idV h_0_Prev h_0_Root h_0_Time h_0_Bits h_0_Nonce)) = (Vector.toList (idV h_0_Prev h_0_Root h_0_Time h_0_Bits h_0_Nonce)))) else false) true then (bif eqb (bif true then (decide ((meetsS (idV h_0_Prev h_0_Root h_0_Time h_0_Bits h_0_Nonce) h_0_Bits) = (meetsS (idV h_0_Prev h_0_Root h_0_Time h_0_Bits h_0_Nonce) h_0_Bits))) else false) true then (some true)
          else (some false))
        else (some false))
      else (some false)
  else none) := by kernel_rfl
theorem law08_HeadPuts_spec (p r : Vector UInt8 32) (t b n : UInt32) : law08_HeadPuts p r t b n = some true := by
  rw [law08_HeadPuts, if_pos (by rw [headB_len]; omega)]
  simp [eqb]

end
end Go.Proofs.YtbdajagcinfeeaaDoor.M

namespace Go.Proofs.YtbdajagcinfeeaaDoor.M
open Go
noncomputable section
set_option maxRecDepth 100000
set_option maxHeartbeats 0
noncomputable def law08_HeadPuts_T : Tbl := [(21, [], head_Put_c), (22, [], ref08_Put_c), (20, [], ref00_Same_c), (23, [], head_Id_c), (24, [], ref08_Id_c), (25, [], head_Works_c), (26, [], ref08_Works_c), (27, [], law08_works_c)]
noncomputable def law08_HeadPuts_C : CfgW := mkC Tryd.prog theG law08_HeadPuts_T 25 0 false
def law08_HeadPuts_lv : Nat → List Nat := fun i => []
noncomputable abbrev law08_HeadPuts_b : Code := Tryd.f7.body.getD .skip
noncomputable abbrev law08_HeadPuts_r : List ResultVar := Tryd.f7.results.toList
def law08_HeadPuts_hs : List Nat := []

def law08_HeadPuts_enc (r : Bool) : CallOut := ⟨.pv (.sc .b r), [], true, []⟩
theorem law08_HeadPuts_e (h_0_Prev : Vector UInt8 32) (h_0_Root : Vector UInt8 32) (h_0_Time : UInt32) (h_0_Bits : UInt32) (h_0_Nonce : UInt32) (Q : CallOut → Prop) : evalFnP law08_HeadPuts_C law08_HeadPuts_lv law08_HeadPuts_r law08_HeadPuts_hs law08_HeadPuts_b [.pv (.st [.arr .u8 32 h_0_Prev, .arr .u8 32 h_0_Root, .sc .u32 h_0_Time, .sc .u32 h_0_Bits, .sc .u32 h_0_Nonce])] [] Q =
    (((List.length (headB h_0_Prev h_0_Root h_0_Time h_0_Bits h_0_Nonce)) ≤ (1152921504606846976 : Nat)) ∧ (condP (eqb (decide ((headB h_0_Prev h_0_Root h_0_Time h_0_Bits h_0_Nonce) = (headB h_0_Prev h_0_Root h_0_Time h_0_Bits h_0_Nonce))) true) (condP (eqb (bif true then (decide ((Vector.toList (idV h_0_Prev h_0_Root h_0_Time h_0_Bits h_0_Nonce)) = (Vector.toList (idV h_0_Prev h_0_Root h_0_Time h_0_Bits h_0_Nonce)))) else false) true) (condP (eqb (bif true then (decide ((meetsS (idV h_0_Prev h_0_Root h_0_Time h_0_Bits h_0_Nonce) h_0_Bits) = (meetsS (idV h_0_Prev h_0_Root h_0_Time h_0_Bits h_0_Nonce) h_0_Bits))) else false) true) (Q (law08_HeadPuts_enc true)) (Q (law08_HeadPuts_enc false))) (Q (law08_HeadPuts_enc false))) (Q (law08_HeadPuts_enc false)))) := by kernel_rfl
theorem law08_HeadPuts_w (h_0_Prev : Vector UInt8 32) (h_0_Root : Vector UInt8 32) (h_0_Time : UInt32) (h_0_Bits : UInt32) (h_0_Nonce : UInt32) {r} {Q : CallOut → Prop} (h : law08_HeadPuts h_0_Prev h_0_Root h_0_Time h_0_Bits h_0_Nonce = some r) (hQ : Q (law08_HeadPuts_enc r)) : evalFnP law08_HeadPuts_C law08_HeadPuts_lv law08_HeadPuts_r law08_HeadPuts_hs law08_HeadPuts_b [.pv (.st [.arr .u8 32 h_0_Prev, .arr .u8 32 h_0_Root, .sc .u32 h_0_Time, .sc .u32 h_0_Bits, .sc .u32 h_0_Nonce])] [] Q :=
  Eq.mpr (law08_HeadPuts_e h_0_Prev h_0_Root h_0_Time h_0_Bits h_0_Nonce Q) (have h := (law08_HeadPuts_q h_0_Prev h_0_Root h_0_Time h_0_Bits h_0_Nonce).symm.trans h; ite_ok h fun hc0 h => cond_ok h (fun h => cond_ok h (fun h => cond_ok h (fun h => ret_ok (Q := Q) (e := law08_HeadPuts_enc) h hQ) (fun h => ret_ok (Q := Q) (e := law08_HeadPuts_enc) h hQ)) (fun h => ret_ok (Q := Q) (e := law08_HeadPuts_enc) h hQ)) (fun h => ret_ok (Q := Q) (e := law08_HeadPuts_enc) h hQ))
def law08_HeadPuts_c : Ans
  | [.pv (.st [.arr .u8 32 h_0_Prev, .arr .u8 32 h_0_Root, .sc .u32 h_0_Time, .sc .u32 h_0_Bits, .sc .u32 h_0_Nonce])], [] => some (none, law08_HeadPuts_enc (true))
  | _, _ => none
theorem law08_HeadPuts_tok : TblOK Tryd.prog theG law08_HeadPuts_T := .cons ⟨by kernel_rfl, head_Put_ok⟩ (.cons ⟨by kernel_rfl, ref08_Put_ok⟩ (.cons ⟨by kernel_rfl, ref00_Same_ok⟩ (.cons ⟨by kernel_rfl, head_Id_ok⟩ (.cons ⟨by kernel_rfl, ref08_Id_ok⟩ (.cons ⟨by kernel_rfl, head_Works_ok⟩ (.cons ⟨by kernel_rfl, ref08_Works_ok⟩ (.cons ⟨by kernel_rfl, law08_works_ok⟩ (.nil))))))))
theorem law08_HeadPuts_ok : FnOK Tryd.prog theG 7 (unW law08_HeadPuts_c) := by
  refine FnOK.ofC (T := law08_HeadPuts_T) (nt := 25) (np := 0) (nf := false) (hs := law08_HeadPuts_hs) (fn := Tryd.f7) (body := law08_HeadPuts_b) law08_HeadPuts_tok (by kernel_rfl) (by kernel_rfl) (by kernel_rfl) (by kernel_rfl) (c := law08_HeadPuts_c) (lv := law08_HeadPuts_lv) ?_
  intro xs mem p out h hp
  unfold law08_HeadPuts_c at h
  split at h
  · cases h
    exact law08_HeadPuts_w _ _ _ _ _ (law08_HeadPuts_spec _ _ _ _ _) rfl
  · cases h
end
end Go.Proofs.YtbdajagcinfeeaaDoor.M

namespace Go.Proofs.YtbdajagcinfeeaaDoor
open Go Go.ChangeShapes Go.WideShapes Go.ChangeAt Go.RowKit
open Go.Proofs.YtbdajagcinfeeaaDoor
theorem law08_HeadPuts_own : ownKnob Tryd.prog.godebug = none := by kernel_rfl
theorem law08_HeadPuts_law : ∀ ys : List M.PV, M.FitL [.st [.arr .u8 32, .arr .u8 32, .sc .u32, .sc .u32, .sc .u32]] ys → ∃ p out, M.law08_HeadPuts_c (ys.map .pv) [] = some (p, out) ∧ p.h ∧ out.val = .pv (.sc .b true) := by
  rintro ys ⟨_, _, rfl, ⟨_, rfl, ⟨_, _, rfl, ⟨x0_Prev, rfl, hx0_Prev⟩, ⟨_, _, rfl, ⟨x0_Root, rfl, hx0_Root⟩, ⟨_, _, rfl, ⟨x0_Time, rfl, hx0_Time⟩, ⟨_, _, rfl, ⟨x0_Bits, rfl, hx0_Bits⟩, ⟨_, _, rfl, ⟨x0_Nonce, rfl, hx0_Nonce⟩, rfl⟩⟩⟩⟩⟩⟩, rfl⟩
  exact ⟨_, _, rfl, trivial, rfl⟩
set_option maxRecDepth 100000 in
theorem law08_HeadPuts_lifted (os : Os) (started : os.Started) (H : Type) (enc : TypeId × Value → H) :
    ReturnsInHanded {} Tryd.checked os 7 .any (fun w args => (Rows.headPutsSpec.pre enc Tryd.prog Tryd.f7 [] false w args ∧ laidMetH Tryd.prog Rows.headPutsRow.laid w) ∧ sizedMet enc Tryd.prog Tryd.f7 (OpenSpec.ofChange Rows.headPutsSpec) false w args)
      (Rows.headPutsSpec.post enc Tryd.prog Tryd.f7 false true false false) := by
  refine returnsInHanded_of_change_and (C := Tryd.checked) (X := fun w _ => laidMetH Tryd.prog Rows.headPutsRow.laid w) (fun _ _ _ hh h => h.of_heap hh) law08_HeadPuts_own started (by kernel_rfl) (by kernel_rfl)
    (ChangeSpec.witness_shaped (enc := enc) (C := Tryd.checked) (os := os) (X := fun w _ => laidMetH Tryd.prog Rows.headPutsRow.laid w) false (World.laidAll Tryd.prog os Rows.headPutsRow.laid) #[.agg #[.int .u8 0, .int .u8 0, .int .u8 0, .int .u8 0, .int .u8 0, .int .u8 0, .int .u8 0, .int .u8 0, .int .u8 0, .int .u8 0, .int .u8 0, .int .u8 0, .int .u8 0, .int .u8 0, .int .u8 0, .int .u8 0, .int .u8 0, .int .u8 0, .int .u8 0, .int .u8 0, .int .u8 0, .int .u8 0, .int .u8 0, .int .u8 0, .int .u8 0, .int .u8 0, .int .u8 0, .int .u8 0, .int .u8 0, .int .u8 0, .int .u8 0, .int .u8 0, .int .u8 0, .int .u8 0, .int .u8 0, .int .u8 0, .int .u8 0, .int .u8 0, .int .u8 0, .int .u8 0, .int .u8 0, .int .u8 0, .int .u8 0, .int .u8 0, .int .u8 0, .int .u8 0, .int .u8 0, .int .u8 0, .int .u8 0, .int .u8 0, .int .u8 0, .int .u8 0, .int .u8 0, .int .u8 0, .int .u8 0, .int .u8 0, .int .u8 0, .int .u8 0, .int .u8 0, .int .u8 0, .int .u8 0, .int .u8 0, .int .u8 0, .int .u8 0, .int .u32 0, .int .u32 0, .int .u32 0]] 8 (World.laidAll_os _ _ _)
      (World.shaped_of_ZipB (by kernel_rfl) (by kernel_rfl)) (by kernel_rfl) (by kernel_rfl) (by kernel_rfl)
      (by rw [MakeChecks.laidMetH_plain _ _ _ (by kernel_rfl)]; exact laidMet_laidAll _ (by kernel_rfl) (by kernel_rfl))) ?_
  intro W base args ds gs before hval hW _ hsz hL _
  exact M.law_contract (ss := [.st [.arr .u8 32, .arr .u8 32, .sc .u32, .sc .u32, .sc .u32]]) (G := M.theG) (c := M.law08_HeadPuts_c) (tb := 4) rfl (fun ds h => by
      match ds, h with
      | [d0], _ => rfl) (by kernel_rfl) (by kernel_rfl) (by kernel_rfl) (by kernel_rfl) (by kernel_rfl) M.law08_HeadPuts_ok law08_HeadPuts_law hval hW hsz (M.globs (by rwa [MakeChecks.laidMetH_plain _ _ _ (by kernel_rfl)] at hL))
theorem headPuts_row : Rows.HeadPutsSaid :=
  OpenClaim.holds_of_wide 7 Tryd.f7 rfl rfl rfl rfl rfl rfl rfl ⟨rfl, rfl, rfl, rfl, rfl⟩ rfl rfl rfl rfl rfl (by kernel_rfl) (by kernel_rfl) (by kernel_rfl)
    (of_decide_eq_true (by kernel_rfl)) (by unfold Func.isWrapper; first | (rw [if_pos (by decide +kernel)]; kernel_rfl) | (rw [if_neg (by decide +kernel)]; exact ⟨rfl, rfl⟩))
    (fun os started H enc _ => law08_HeadPuts_lifted os started H enc)
theorem headPuts_card : Rows.HeadPutsCardSaid :=
  Claim7.holds_tied_plain_at .later [] [.data] true (true, "3f586422b4bcc8e156c7a75eeef5cb184319f97d1faa08789495172fa4ab45b4") false headPuts_row (fun _ h => by cases h) (by kernel_rfl) (fun _ h => by cases h) headPuts_row_tie rfl ⟨rfl, rfl⟩ (by kernel_rfl) rfl
    (fun f fn hf hfn => by
      obtain rfl : f = 7 := Option.some.inj ((show Tryd.prog.funcNamed "moneyer/moneyerlaw08.HeadPuts" = some 7 by kernel_rfl).symm.trans hf) |>.symm
      obtain rfl : fn = Tryd.f7 := (Option.some.inj ((show Tryd.prog.funcs[7]? = some Tryd.f7 by kernel_rfl).symm.trans hfn)).symm
      exact ⟨by kernel_rfl, fun j t ht => by
        have hp : Tryd.f7.params = #[40] := by kernel_rfl
        rw [hp] at ht
        have hm : t ∈ [40] := by simpa using Array.mem_of_getElem? ht
        have hall : ([40].all fun u => !Tryd.prog.wantsStandIn u) = true := by kernel_rfl
        exact (show Tryd.prog.wantsStandIn t = false by simpa using List.all_eq_true.1 hall t hm)⟩)
    (by kernel_rfl)
#print axioms headPuts_card
end Go.Proofs.YtbdajagcinfeeaaDoor
