/- The statement of HeadGets: for every input the law returns true, and each argument reads behind the call as it read before. No condition. -/
import Derived.KernelRfl
import Derived.Test.YtbdajagcinfeeaaDoorProg
import Derived.Test.YtbdajagcinfeeaaDoorRows
import Derived.Test.YtbdajagcinfeeaaDoorCards
import Derived.Test.YtbdajagcinfeeaaDoorTie
import Derived.WalkKit
import Derived.ProofKit
import Derived.Handy
import Derived.Lay
import Derived.SizedLaws
import Derived.SevenTiedAt
import Derived.Test.YtbdajagcinfeeaaDoorLe
import Derived.Test.YtbdajagcinfeeaaDoorFhead
import Derived.Test.YtbdajagcinfeeaaDoorFref08
import Derived.Test.YtbdajagcinfeeaaDoorFref00
import Derived.Test.YtbdajagcinfeeaaDoorFlaw08
import Derived.Test.YtbdajagcinfeeaaDoorSwords
import Derived.Test.YtbdajagcinfeeaaDoorSshaS
import Derived.Test.YtbdajagcinfeeaaDoorSbigS
import Derived.Test.YtbdajagcinfeeaaDoorSendS
import Derived.Test.YtbdajagcinfeeaaDoorStarS
import Derived.Test.YtbdajagcinfeeaaDoorSshaK
import Derived.Test.YtbdajagcinfeeaaDoorSKL
set_option linter.unusedVariables false
set_option linter.unusedSimpArgs false
set_option autoImplicit false
namespace Go.Proofs.YtbdajagcinfeeaaDoor.M
open Go
noncomputable section
/-- moneyer/moneyerlaw08.HeadGets -/
def law08_HeadGets (b : List UInt8) (at_1 : Int) : Option (Bool) :=
  if (List.length b) ≤ (140737488351232 : Nat) then
    bif eqb (!((decide ((Vector.toList (hgP b at_1)) = (Vector.toList (hgP b at_1)))) && ((decide ((Vector.toList (hgR b at_1)) = (Vector.toList (hgR b at_1)))) && ((decide ((hgT b at_1) = (hgT b at_1))) && ((decide ((hgB b at_1) = (hgB b at_1))) && ((decide ((hgN b at_1) = (hgN b at_1))) && true)))))) false then (bif eqb (bif false then true else (!(decide ((hgI b at_1) = (hgI b at_1))))) false then (bif eqb (bif false then true else (!(decide ((partE b at_1 (76 : Int)) = (partE b at_1 (76 : Int)))))) false then (bif eqb (bif false then true else (!((decide ((Vector.toList (rdV b (hgP b (0 : Int)))) = (Vector.toList (rdV b (hgP b (0 : Int)))))) && ((decide ((Vector.toList (rdV b (hgR b (0 : Int)))) = (Vector.toList (rdV b (hgR b (0 : Int)))))) && ((decide ((rdW b (hgT b (0 : Int))) = (rdW b (hgT b (0 : Int))))) && ((decide ((rdW b (hgB b (0 : Int))) = (rdW b (hgB b (0 : Int))))) && ((decide ((rdW b (hgN b (0 : Int))) = (rdW b (hgN b (0 : Int))))) && true))))))) false then (bif bif false then true else (!(decide ((rdE b) = (rdE b)))) then (some false)
              else (bif eqb (!(decide ((partE b at_1 (76 : Int)) = (0 : Int)))) false then (bif eqb (decide ((0 : Int) ≤ at_1)) true then (bif eqb (bif true then (decide ((hgI b at_1) ≤ (((List.length b) : Nat) : Int))) else false) true then (if ((0 : Int) ≤ at_1) ∧ ((at_1 ≤ (hgI b at_1)) ∧ ((hgI b at_1) ≤ (((List.length b) : Nat) : Int))) then
                      if (List.length (headB (hgP b at_1) (hgR b at_1) (hgT b at_1) (hgB b at_1) (hgN b at_1))) ≤ (1152921504606846976 : Nat) then
                        bif eqb (bif false then true else (bif true then (decide ((headB (hgP b at_1) (hgR b at_1) (hgT b at_1) (hgB b at_1) (hgN b at_1)) = (List.take ((Int.toNat (hgI b at_1)) - (Int.toNat at_1)) (List.drop (Int.toNat at_1) b)))) else false)) true then (some true)
                          else (some false)
                      else none
                    else none)
                    else (some false))
                  else (some false))
                else (some true)))
            else (some false))
          else (some false))
        else (some false))
      else (some false)
  else none
theorem law08_HeadGets_q (b : List UInt8) (at_1 : Int) : law08_HeadGets b at_1 = (if (List.length b) ≤ (140737488351232 : Nat) then
    bif eqb (!((decide ((Vector.toList (hgP b at_1)) = (Vector.toList (hgP b at_1)))) && ((decide ((Vector.toList (hgR b at_1)) = (Vector.toList (hgR b at_1)))) && ((decide ((hgT b at_1) = (hgT b at_1))) && ((decide ((hgB b at_1) = (hgB b at_1))) && ((decide ((hgN b at_1) = (hgN b at_1))) && true)))))) false then (bif eqb (bif false then true else (!(decide ((hgI b at_1) = (hgI b at_1))))) false then (bif eqb (bif false then true else (!(decide ((partE b at_1 (76 : Int)) = (partE b at_1 (76 : Int)))))) false then (bif eqb (bif false then true else (!((decide ((Vector.toList (rdV b (hgP b (0 : Int)))) = (Vector.toList (rdV b (hgP b (0 : Int)))))) && ((decide ((Vector.toList (rdV b (hgR b (0 : Int)))) = (Vector.toList (rdV b (hgR b (0 : Int)))))) && ((decide ((rdW b (hgT b (0 : Int))) = (rdW b (hgT b (0 : Int))))) && ((decide ((rdW b (hgB b (0 : Int))) = (rdW b (hgB b (0 : Int))))) && ((decide ((rdW b (hgN b (0 : Int))) = (rdW b (hgN b (0 : Int))))) && true))))))) false then (bif bif false then true else (!(decide ((rdE b) = (rdE b)))) then (some false)
              else (bif eqb (!(decide ((partE b at_1 (76 : Int)) = (0 : Int)))) false then (bif eqb (decide ((0 : Int) ≤ at_1)) true then (bif eqb (bif true then (decide ((hgI b at_1) ≤ (((List.length b) : Nat) : Int))) else false) true then (if ((0 : Int) ≤ at_1) ∧ ((at_1 ≤ (hgI b at_1)) ∧ ((hgI b at_1) ≤ (((List.length b) : Nat) : Int))) then
                      if (List.length (headB (hgP b at_1) (hgR b at_1) (hgT b at_1) (hgB b at_1) (hgN b at_1))) ≤ (1152921504606846976 : Nat) then
                        bif eqb (bif false then true else (bif true then (decide ((headB (hgP b at_1) (hgR b at_1) (hgT b at_1) (hgB b at_1) (hgN b at_1)) = (List.take ((Int.toNat (hgI b at_1)) - (Int.toNat at_1)) (List.drop (Int.toNat at_1) b)))) else false)) true then (some true)
                          else (some false)
                      else none
                    else none)
                    else (some false))
                  else (some false))
                else (some true)))
            else (some false))
          else (some false))
        else (some false))
      else (some false)
  else none) := by kernel_rfl
theorem head_back {b : List UInt8} {a : Int} (h : partE b a 76 = 0) : headB (hgP b a) (hgR b a) (hgT b a) (hgB b a) (hgN b a) = partL b a 76 := by
  rw [hgP_eq, hgR_eq, hgT_eq, hgB_eq, hgN_eq, if_pos h, if_pos h, if_pos h, if_pos h, if_pos h]
  exact put_get _ (partL_len h)
theorem law08_HeadGets_spec (b : List UInt8) (a : Int) (hp : b.length ≤ 140737488351232) : law08_HeadGets b a = some true := by
  rw [law08_HeadGets, if_pos hp]
  by_cases h : partE b a 76 = 0
  · have f := partE_0 h
    have e1 : hgI b a = a + 76 := by rw [hgI_eq, if_pos h]; exact w64_id (by omega) (by omega)
    have e2 := head_back h
    have e3 : List.take (Int.toNat (a + 76) - Int.toNat a) (List.drop (Int.toNat a) b) = partL b a 76 := by
      rw [partL_eq, if_pos h, show Int.toNat (a + 76) - Int.toNat a = 76 by omega]
      rfl
    have e4 : (partL b a 76).length = 76 := partL_len h
    rw [h, e1, e2, e3, if_pos ⟨by omega, by omega, by omega⟩, if_pos (by omega)]
    rw [decide_eq_true (p := (0 : Int) ≤ a) (by omega), decide_eq_true (p := a + 76 ≤ ((b.length : Nat) : Int)) (by omega)]
    simp [eqb]
  · rw [decide_eq_false h]
    simp [eqb]

end
end Go.Proofs.YtbdajagcinfeeaaDoor.M

namespace Go.Proofs.YtbdajagcinfeeaaDoor.M
open Go
noncomputable section
set_option maxRecDepth 100000
set_option maxHeartbeats 0
noncomputable def law08_HeadGets_T : Tbl := [(28, [], head_Get_c), (29, [], ref08_Get_c), (30, [], head_Read_c), (31, [], ref08_Read_c), (21, [], head_Put_c), (20, [], ref00_Same_c), (27, [], law08_works_c)]
noncomputable def law08_HeadGets_C : CfgW := mkC Tryd.prog theG law08_HeadGets_T 86 0 false
def law08_HeadGets_lv : Nat → List Nat := fun i => []
noncomputable abbrev law08_HeadGets_b : Code := Tryd.f8.body.getD .skip
noncomputable abbrev law08_HeadGets_r : List ResultVar := Tryd.f8.results.toList
def law08_HeadGets_hs : List Nat := []

def law08_HeadGets_enc (r : Bool) : CallOut := ⟨.pv (.sc .b r), [], true, []⟩
theorem law08_HeadGets_e (b : List UInt8) (at_1 : Int) (Q : CallOut → Prop) : evalFnP law08_HeadGets_C law08_HeadGets_lv law08_HeadGets_r law08_HeadGets_hs law08_HeadGets_b [.pv (.sl .u8 b), .pv (.sc .i at_1)] [] Q =
    (((List.length b) ≤ (140737488351232 : Nat)) ∧ (((List.length b) ≤ (140737488351232 : Nat)) ∧ (((List.length b) ≤ (140737488351232 : Nat)) ∧ (((List.length b) ≤ (140737488351232 : Nat)) ∧ (condP (eqb (!((decide ((Vector.toList (hgP b at_1)) = (Vector.toList (hgP b at_1)))) && ((decide ((Vector.toList (hgR b at_1)) = (Vector.toList (hgR b at_1)))) && ((decide ((hgT b at_1) = (hgT b at_1))) && ((decide ((hgB b at_1) = (hgB b at_1))) && ((decide ((hgN b at_1) = (hgN b at_1))) && true)))))) false) (condP (eqb (bif false then true else (!(decide ((hgI b at_1) = (hgI b at_1))))) false) (condP (eqb (bif false then true else (!(decide ((partE b at_1 (76 : Int)) = (partE b at_1 (76 : Int)))))) false) (condP (eqb (bif false then true else (!((decide ((Vector.toList (rdV b (hgP b (0 : Int)))) = (Vector.toList (rdV b (hgP b (0 : Int)))))) && ((decide ((Vector.toList (rdV b (hgR b (0 : Int)))) = (Vector.toList (rdV b (hgR b (0 : Int)))))) && ((decide ((rdW b (hgT b (0 : Int))) = (rdW b (hgT b (0 : Int))))) && ((decide ((rdW b (hgB b (0 : Int))) = (rdW b (hgB b (0 : Int))))) && ((decide ((rdW b (hgN b (0 : Int))) = (rdW b (hgN b (0 : Int))))) && true))))))) false) (condP (bif false then true else (!(decide ((rdE b) = (rdE b))))) (Q (law08_HeadGets_enc false)) (condP (eqb (!(decide ((partE b at_1 (76 : Int)) = (0 : Int)))) false) (condP (eqb (decide ((0 : Int) ≤ at_1)) true) (condP (eqb (bif true then (decide ((hgI b at_1) ≤ (((List.length b) : Nat) : Int))) else false) true) ((((0 : Int) ≤ at_1) ∧ ((at_1 ≤ (hgI b at_1)) ∧ ((hgI b at_1) ≤ (((List.length b) : Nat) : Int)))) ∧ (((List.length (headB (hgP b at_1) (hgR b at_1) (hgT b at_1) (hgB b at_1) (hgN b at_1))) ≤ (1152921504606846976 : Nat)) ∧ (condP (eqb (bif false then true else (bif true then (decide ((headB (hgP b at_1) (hgR b at_1) (hgT b at_1) (hgB b at_1) (hgN b at_1)) = (List.take ((Int.toNat (hgI b at_1)) - (Int.toNat at_1)) (List.drop (Int.toNat at_1) b)))) else false)) true) (Q (law08_HeadGets_enc true)) (Q (law08_HeadGets_enc false))))) (Q (law08_HeadGets_enc false))) (Q (law08_HeadGets_enc false))) (Q (law08_HeadGets_enc true)))) (Q (law08_HeadGets_enc false))) (Q (law08_HeadGets_enc false))) (Q (law08_HeadGets_enc false))) (Q (law08_HeadGets_enc false))))))) := by kernel_rfl
theorem law08_HeadGets_w (b : List UInt8) (at_1 : Int) {r} {Q : CallOut → Prop} (h : law08_HeadGets b at_1 = some r) (hQ : Q (law08_HeadGets_enc r)) : evalFnP law08_HeadGets_C law08_HeadGets_lv law08_HeadGets_r law08_HeadGets_hs law08_HeadGets_b [.pv (.sl .u8 b), .pv (.sc .i at_1)] [] Q :=
  Eq.mpr (law08_HeadGets_e b at_1 Q) (have h := (law08_HeadGets_q b at_1).symm.trans h; ite_ok h fun hc0 h => ⟨hc0, ⟨hc0, ⟨hc0, cond_ok h (fun h => cond_ok h (fun h => cond_ok h (fun h => cond_ok h (fun h => cond_ok h (fun h => ret_ok (Q := Q) (e := law08_HeadGets_enc) h hQ) (fun h => cond_ok h (fun h => cond_ok h (fun h => cond_ok h (fun h => ite_ok h fun hc1 h => ite_ok h fun hc2 h => cond_ok h (fun h => ret_ok (Q := Q) (e := law08_HeadGets_enc) h hQ) (fun h => ret_ok (Q := Q) (e := law08_HeadGets_enc) h hQ)) (fun h => ret_ok (Q := Q) (e := law08_HeadGets_enc) h hQ)) (fun h => ret_ok (Q := Q) (e := law08_HeadGets_enc) h hQ)) (fun h => ret_ok (Q := Q) (e := law08_HeadGets_enc) h hQ))) (fun h => ret_ok (Q := Q) (e := law08_HeadGets_enc) h hQ)) (fun h => ret_ok (Q := Q) (e := law08_HeadGets_enc) h hQ)) (fun h => ret_ok (Q := Q) (e := law08_HeadGets_enc) h hQ)) (fun h => ret_ok (Q := Q) (e := law08_HeadGets_enc) h hQ)⟩⟩⟩)
def law08_HeadGets_c : Ans
  | [.pv (.sl .u8 b), .pv (.sc .i at_1)], [] => some (some (b.length ≤ 140737488351232), law08_HeadGets_enc (true))
  | _, _ => none
theorem law08_HeadGets_tok : TblOK Tryd.prog theG law08_HeadGets_T := .cons ⟨by kernel_rfl, head_Get_ok⟩ (.cons ⟨by kernel_rfl, ref08_Get_ok⟩ (.cons ⟨by kernel_rfl, head_Read_ok⟩ (.cons ⟨by kernel_rfl, ref08_Read_ok⟩ (.cons ⟨by kernel_rfl, head_Put_ok⟩ (.cons ⟨by kernel_rfl, ref00_Same_ok⟩ (.cons ⟨by kernel_rfl, law08_works_ok⟩ (.nil)))))))
theorem law08_HeadGets_ok : FnOK Tryd.prog theG 8 (unW law08_HeadGets_c) := by
  refine FnOK.ofC (T := law08_HeadGets_T) (nt := 86) (np := 0) (nf := false) (hs := law08_HeadGets_hs) (fn := Tryd.f8) (body := law08_HeadGets_b) law08_HeadGets_tok (by kernel_rfl) (by kernel_rfl) (by kernel_rfl) (by kernel_rfl) (c := law08_HeadGets_c) (lv := law08_HeadGets_lv) ?_
  intro xs mem p out h hp
  unfold law08_HeadGets_c at h
  split at h
  · cases h
    exact law08_HeadGets_w _ _ (law08_HeadGets_spec _ _ hp) rfl
  · cases h
end
end Go.Proofs.YtbdajagcinfeeaaDoor.M

namespace Go.Proofs.YtbdajagcinfeeaaDoor
open Go Go.ChangeShapes Go.WideShapes Go.ChangeAt Go.RowKit
open Go.Proofs.YtbdajagcinfeeaaDoor
theorem law08_HeadGets_own : ownKnob Tryd.prog.godebug = none := by kernel_rfl
theorem law08_HeadGets_law : ∀ ys : List M.PV, M.FitL [.sl .u8, .sc .i] ys → ∃ p out, M.law08_HeadGets_c (ys.map .pv) [] = some (p, out) ∧ p.h ∧ out.val = .pv (.sc .b true) := by
  rintro ys ⟨_, _, rfl, ⟨x0, rfl, hx0, lx0⟩, ⟨_, _, rfl, ⟨x1, rfl, hx1⟩, rfl⟩⟩
  exact ⟨_, _, rfl, by simpa [M.EK.bytes] using lx0, rfl⟩
set_option maxRecDepth 100000 in
theorem law08_HeadGets_lifted (os : Os) (started : os.Started) (H : Type) (enc : TypeId × Value → H) :
    ReturnsInHanded {} Tryd.checked os 8 .any (fun w args => (Rows.headGetsSpec.pre enc Tryd.prog Tryd.f8 [] false w args ∧ laidMetH Tryd.prog Rows.headGetsRow.laid w) ∧ sizedMet enc Tryd.prog Tryd.f8 (OpenSpec.ofChange Rows.headGetsSpec) false w args)
      (Rows.headGetsSpec.post enc Tryd.prog Tryd.f8 false true false false) := by
  refine returnsInHanded_of_change_and (C := Tryd.checked) (X := fun w _ => laidMetH Tryd.prog Rows.headGetsRow.laid w) (fun _ _ _ hh h => h.of_heap hh) law08_HeadGets_own started (by kernel_rfl) (by kernel_rfl)
    (ChangeSpec.witness_shaped (enc := enc) (C := Tryd.checked) (os := os) (X := fun w _ => laidMetH Tryd.prog Rows.headGetsRow.laid w) false (World.laidAll Tryd.prog os Rows.headGetsRow.laid) #[.slice none 0 0, .int .i64 0] 8 (World.laidAll_os _ _ _)
      (World.shaped_of_ZipB (by kernel_rfl) (by kernel_rfl)) (by kernel_rfl) (by kernel_rfl) (by kernel_rfl)
      (by rw [MakeChecks.laidMetH_plain _ _ _ (by kernel_rfl)]; exact laidMet_laidAll _ (by kernel_rfl) (by kernel_rfl))) ?_
  intro W base args ds gs before hval hW _ hsz hL _
  exact M.law_contract (ss := [.sl .u8, .sc .i]) (G := M.theG) (c := M.law08_HeadGets_c) (tb := 4) rfl (fun ds h => by
      match ds, h with
      | [d0, d1], _ => rfl) (by kernel_rfl) (by kernel_rfl) (by kernel_rfl) (by kernel_rfl) (by kernel_rfl) M.law08_HeadGets_ok law08_HeadGets_law hval hW hsz (M.globs (by rwa [MakeChecks.laidMetH_plain _ _ _ (by kernel_rfl)] at hL))
theorem headGets_row : Rows.HeadGetsSaid :=
  OpenClaim.holds_of_wide 8 Tryd.f8 rfl rfl rfl rfl rfl rfl rfl ⟨rfl, rfl, rfl, rfl, rfl⟩ rfl rfl rfl rfl rfl (by kernel_rfl) (by kernel_rfl) (by kernel_rfl)
    (of_decide_eq_true (by kernel_rfl)) (by unfold Func.isWrapper; first | (rw [if_pos (by decide +kernel)]; kernel_rfl) | (rw [if_neg (by decide +kernel)]; exact ⟨rfl, rfl⟩))
    (fun os started H enc _ => law08_HeadGets_lifted os started H enc)
theorem headGets_card : Rows.HeadGetsCardSaid :=
  Claim7.holds_tied_plain_at .later [] [.data] true (true, "3f586422b4bcc8e156c7a75eeef5cb184319f97d1faa08789495172fa4ab45b4") false headGets_row (fun _ h => by cases h) (by kernel_rfl) (fun _ h => by cases h) headGets_row_tie rfl ⟨rfl, rfl⟩ (by kernel_rfl) rfl
    (fun f fn hf hfn => by
      obtain rfl : f = 8 := Option.some.inj ((show Tryd.prog.funcNamed "moneyer/moneyerlaw08.HeadGets" = some 8 by kernel_rfl).symm.trans hf) |>.symm
      obtain rfl : fn = Tryd.f8 := (Option.some.inj ((show Tryd.prog.funcs[8]? = some Tryd.f8 by kernel_rfl).symm.trans hfn)).symm
      exact ⟨by kernel_rfl, fun j t ht => by
        have hp : Tryd.f8.params = #[42, 3] := by kernel_rfl
        rw [hp] at ht
        have hm : t ∈ [42, 3] := by simpa using Array.mem_of_getElem? ht
        have hall : ([42, 3].all fun u => !Tryd.prog.wantsStandIn u) = true := by kernel_rfl
        exact (show Tryd.prog.wantsStandIn t = false by simpa using List.all_eq_true.1 hall t hm)⟩)
    (by kernel_rfl)
#print axioms headGets_card
end Go.Proofs.YtbdajagcinfeeaaDoor
