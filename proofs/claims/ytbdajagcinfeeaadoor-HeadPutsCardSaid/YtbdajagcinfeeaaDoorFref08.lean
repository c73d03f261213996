/- Part of the proofs: what functions of the program do: plain functions, and the walks that show it. No condition. -/
import Derived.KernelRfl
import Derived.Test.YtbdajagcinfeeaaDoorProg
import Derived.Test.YtbdajagcinfeeaaDoorLe
import Derived.Test.YtbdajagcinfeeaaDoorFref02
import Derived.Test.YtbdajagcinfeeaaDoorFref01
import Derived.Test.YtbdajagcinfeeaaDoorSwords
import Derived.Test.YtbdajagcinfeeaaDoorSshaS
import Derived.Test.YtbdajagcinfeeaaDoorSbigS
import Derived.Test.YtbdajagcinfeeaaDoorSendS
import Derived.Test.YtbdajagcinfeeaaDoorStarS
import Derived.Test.YtbdajagcinfeeaaDoorFref04
import Derived.Test.YtbdajagcinfeeaaDoorSshaK
set_option linter.unusedVariables false
set_option linter.unusedSimpArgs false
set_option autoImplicit false
namespace Go.Proofs.YtbdajagcinfeeaaDoor.M
open Go
noncomputable section
/-- moneyer/moneyerref08.Put -/
def ref08_Put (h_0_Prev : Vector UInt8 32) (h_0_Root : Vector UInt8 32) (h_0_Time : UInt32) (h_0_Bits : UInt32) (h_0_Nonce : UInt32) : Option (List UInt8) :=
  if (((List.length ((Vector.toList h_0_Prev) ++ (Vector.toList h_0_Root))) * (1 : Nat)) ≤ (70368744177664 : Nat)) ∧ ((List.length ((Vector.toList h_0_Prev) ++ (Vector.toList h_0_Root))) ≤ (70368744177664 : Nat)) then
    if (((List.length (((Vector.toList h_0_Prev) ++ (Vector.toList h_0_Root)) ++ (putL (UInt32.toUInt64 h_0_Time) (4 : Int)))) * (1 : Nat)) ≤ (70368744177664 : Nat)) ∧ ((List.length (((Vector.toList h_0_Prev) ++ (Vector.toList h_0_Root)) ++ (putL (UInt32.toUInt64 h_0_Time) (4 : Int)))) ≤ (70368744177664 : Nat)) then
      if (((List.length ((((Vector.toList h_0_Prev) ++ (Vector.toList h_0_Root)) ++ (putL (UInt32.toUInt64 h_0_Time) (4 : Int))) ++ (putL (UInt32.toUInt64 h_0_Bits) (4 : Int)))) * (1 : Nat)) ≤ (70368744177664 : Nat)) ∧ ((List.length ((((Vector.toList h_0_Prev) ++ (Vector.toList h_0_Root)) ++ (putL (UInt32.toUInt64 h_0_Time) (4 : Int))) ++ (putL (UInt32.toUInt64 h_0_Bits) (4 : Int)))) ≤ (70368744177664 : Nat)) then
        if (((List.length (((((Vector.toList h_0_Prev) ++ (Vector.toList h_0_Root)) ++ (putL (UInt32.toUInt64 h_0_Time) (4 : Int))) ++ (putL (UInt32.toUInt64 h_0_Bits) (4 : Int))) ++ (putL (UInt32.toUInt64 h_0_Nonce) (4 : Int)))) * (1 : Nat)) ≤ (70368744177664 : Nat)) ∧ ((List.length (((((Vector.toList h_0_Prev) ++ (Vector.toList h_0_Root)) ++ (putL (UInt32.toUInt64 h_0_Time) (4 : Int))) ++ (putL (UInt32.toUInt64 h_0_Bits) (4 : Int))) ++ (putL (UInt32.toUInt64 h_0_Nonce) (4 : Int)))) ≤ (70368744177664 : Nat)) then
          some (((((Vector.toList h_0_Prev) ++ (Vector.toList h_0_Root)) ++ (putL (UInt32.toUInt64 h_0_Time) (4 : Int))) ++ (putL (UInt32.toUInt64 h_0_Bits) (4 : Int))) ++ (putL (UInt32.toUInt64 h_0_Nonce) (4 : Int)))
        else none
      else none
    else none
  else none
theorem ref08_Put_q (h_0_Prev : Vector UInt8 32) (h_0_Root : Vector UInt8 32) (h_0_Time : UInt32) (h_0_Bits : UInt32) (h_0_Nonce : UInt32) : ref08_Put h_0_Prev h_0_Root h_0_Time h_0_Bits h_0_Nonce = (if (((List.length ((Vector.toList h_0_Prev) ++ (Vector.toList h_0_Root))) * (1 : Nat)) ≤ (70368744177664 : Nat)) ∧ ((List.length ((Vector.toList h_0_Prev) ++ (Vector.toList h_0_Root))) ≤ (70368744177664 : Nat)) then
    if (((List.length (((Vector.toList h_0_Prev) ++ (Vector.toList h_0_Root)) ++ (putL (UInt32.toUInt64 h_0_Time) (4 : Int)))) * (1 : Nat)) ≤ (70368744177664 : Nat)) ∧ ((List.length (((Vector.toList h_0_Prev) ++ (Vector.toList h_0_Root)) ++ (putL (UInt32.toUInt64 h_0_Time) (4 : Int)))) ≤ (70368744177664 : Nat)) then
      if (((List.length ((((Vector.toList h_0_Prev) ++ (Vector.toList h_0_Root)) ++ (putL (UInt32.toUInt64 h_0_Time) (4 : Int))) ++ (putL (UInt32.toUInt64 h_0_Bits) (4 : Int)))) * (1 : Nat)) ≤ (70368744177664 : Nat)) ∧ ((List.length ((((Vector.toList h_0_Prev) ++ (Vector.toList h_0_Root)) ++ (putL (UInt32.toUInt64 h_0_Time) (4 : Int))) ++ (putL (UInt32.toUInt64 h_0_Bits) (4 : Int)))) ≤ (70368744177664 : Nat)) then
        if (((List.length (((((Vector.toList h_0_Prev) ++ (Vector.toList h_0_Root)) ++ (putL (UInt32.toUInt64 h_0_Time) (4 : Int))) ++ (putL (UInt32.toUInt64 h_0_Bits) (4 : Int))) ++ (putL (UInt32.toUInt64 h_0_Nonce) (4 : Int)))) * (1 : Nat)) ≤ (70368744177664 : Nat)) ∧ ((List.length (((((Vector.toList h_0_Prev) ++ (Vector.toList h_0_Root)) ++ (putL (UInt32.toUInt64 h_0_Time) (4 : Int))) ++ (putL (UInt32.toUInt64 h_0_Bits) (4 : Int))) ++ (putL (UInt32.toUInt64 h_0_Nonce) (4 : Int)))) ≤ (70368744177664 : Nat)) then
          some (((((Vector.toList h_0_Prev) ++ (Vector.toList h_0_Root)) ++ (putL (UInt32.toUInt64 h_0_Time) (4 : Int))) ++ (putL (UInt32.toUInt64 h_0_Bits) (4 : Int))) ++ (putL (UInt32.toUInt64 h_0_Nonce) (4 : Int)))
        else none
      else none
    else none
  else none) := by kernel_rfl
theorem ref08_Put_spec (p r : Vector UInt8 32) (t b n : UInt32) : ref08_Put p r t b n = some (headB p r t b n) := by
  have l0 := lowY_len t.toNat 4
  have l1 := lowY_len b.toNat 4
  have l2 := lowY_len n.toNat 4
  have hp : (Vector.toList p).length = 32 := by simp
  have hr : (Vector.toList r).length = 32 := by simp
  rw [ref08_Put, putL_32, putL_32, putL_32, headB_eq]
  simp only [List.length_append]
  rw [if_pos (by omega), if_pos (by omega), if_pos (by omega), if_pos (by omega)]

end
end Go.Proofs.YtbdajagcinfeeaaDoor.M

namespace Go.Proofs.YtbdajagcinfeeaaDoor.M
open Go
noncomputable section
/-- moneyer/moneyerref08.Id -/
def ref08_Id (h_0_Prev : Vector UInt8 32) (h_0_Root : Vector UInt8 32) (h_0_Time : UInt32) (h_0_Bits : UInt32) (h_0_Nonce : UInt32) : Option (Vector UInt8 32) :=
  if (List.length (headB h_0_Prev h_0_Root h_0_Time h_0_Bits h_0_Nonce)) ≤ (1099511627776 : Nat) then
    some (shaSum (Vector.toList (shaSum (headB h_0_Prev h_0_Root h_0_Time h_0_Bits h_0_Nonce))))
  else none
theorem ref08_Id_q (h_0_Prev : Vector UInt8 32) (h_0_Root : Vector UInt8 32) (h_0_Time : UInt32) (h_0_Bits : UInt32) (h_0_Nonce : UInt32) : ref08_Id h_0_Prev h_0_Root h_0_Time h_0_Bits h_0_Nonce = (if (List.length (headB h_0_Prev h_0_Root h_0_Time h_0_Bits h_0_Nonce)) ≤ (1099511627776 : Nat) then
    some (shaSum (Vector.toList (shaSum (headB h_0_Prev h_0_Root h_0_Time h_0_Bits h_0_Nonce))))
  else none) := by kernel_rfl
theorem ref08_Id_spec (p r : Vector UInt8 32) (t b n : UInt32) : ref08_Id p r t b n = some (idV p r t b n) := by
  rw [ref08_Id, if_pos (by rw [headB_len]; omega), idV_eq]

end
end Go.Proofs.YtbdajagcinfeeaaDoor.M

namespace Go.Proofs.YtbdajagcinfeeaaDoor.M
open Go
noncomputable section
/-- moneyer/moneyerref08.Works -/
def ref08_Works (h_0_Prev : Vector UInt8 32) (h_0_Root : Vector UInt8 32) (h_0_Time : UInt32) (h_0_Bits : UInt32) (h_0_Nonce : UInt32) : Bool :=
  (meetsS (idV h_0_Prev h_0_Root h_0_Time h_0_Bits h_0_Nonce) h_0_Bits)
theorem ref08_Works_q (h_0_Prev : Vector UInt8 32) (h_0_Root : Vector UInt8 32) (h_0_Time : UInt32) (h_0_Bits : UInt32) (h_0_Nonce : UInt32) : ref08_Works h_0_Prev h_0_Root h_0_Time h_0_Bits h_0_Nonce = ((meetsS (idV h_0_Prev h_0_Root h_0_Time h_0_Bits h_0_Nonce) h_0_Bits)) := by kernel_rfl
theorem ref08_Works_spec (p r : Vector UInt8 32) (t b n : UInt32) : ref08_Works p r t b n = meetsS (idV p r t b n) b := by
  rw [ref08_Works]

end
end Go.Proofs.YtbdajagcinfeeaaDoor.M

namespace Go.Proofs.YtbdajagcinfeeaaDoor.M
open Go
noncomputable section
set_option maxRecDepth 100000
set_option maxHeartbeats 0
noncomputable def ref08_Put_T : Tbl := [(42, [], ref02_List_c), (44, [], ref01_Put_c)]
noncomputable def ref08_Put_C : CfgW := mkC Tryd.prog theG ref08_Put_T 45 0 false
def ref08_Put_lv : Nat → List Nat := fun i => []
noncomputable abbrev ref08_Put_b : Code := Tryd.f22.body.getD .skip
noncomputable abbrev ref08_Put_r : List ResultVar := Tryd.f22.results.toList
def ref08_Put_hs : List Nat := []

def ref08_Put_enc (r : List UInt8) : CallOut := ⟨.o 60000, [(60000, .row (.s .u8 r) false)], true, []⟩
theorem ref08_Put_e (h_0_Prev : Vector UInt8 32) (h_0_Root : Vector UInt8 32) (h_0_Time : UInt32) (h_0_Bits : UInt32) (h_0_Nonce : UInt32) (Q : CallOut → Prop) : evalFnP ref08_Put_C ref08_Put_lv ref08_Put_r ref08_Put_hs ref08_Put_b [.pv (.st [.arr .u8 32 h_0_Prev, .arr .u8 32 h_0_Root, .sc .u32 h_0_Time, .sc .u32 h_0_Bits, .sc .u32 h_0_Nonce])] [] Q =
    (((((List.length ((Vector.toList h_0_Prev) ++ (Vector.toList h_0_Root))) * (1 : Nat)) ≤ (70368744177664 : Nat)) ∧ ((List.length ((Vector.toList h_0_Prev) ++ (Vector.toList h_0_Root))) ≤ (70368744177664 : Nat))) ∧ (((((List.length (((Vector.toList h_0_Prev) ++ (Vector.toList h_0_Root)) ++ (putL (UInt32.toUInt64 h_0_Time) (4 : Int)))) * (1 : Nat)) ≤ (70368744177664 : Nat)) ∧ ((List.length (((Vector.toList h_0_Prev) ++ (Vector.toList h_0_Root)) ++ (putL (UInt32.toUInt64 h_0_Time) (4 : Int)))) ≤ (70368744177664 : Nat))) ∧ (((((List.length ((((Vector.toList h_0_Prev) ++ (Vector.toList h_0_Root)) ++ (putL (UInt32.toUInt64 h_0_Time) (4 : Int))) ++ (putL (UInt32.toUInt64 h_0_Bits) (4 : Int)))) * (1 : Nat)) ≤ (70368744177664 : Nat)) ∧ ((List.length ((((Vector.toList h_0_Prev) ++ (Vector.toList h_0_Root)) ++ (putL (UInt32.toUInt64 h_0_Time) (4 : Int))) ++ (putL (UInt32.toUInt64 h_0_Bits) (4 : Int)))) ≤ (70368744177664 : Nat))) ∧ (((((List.length (((((Vector.toList h_0_Prev) ++ (Vector.toList h_0_Root)) ++ (putL (UInt32.toUInt64 h_0_Time) (4 : Int))) ++ (putL (UInt32.toUInt64 h_0_Bits) (4 : Int))) ++ (putL (UInt32.toUInt64 h_0_Nonce) (4 : Int)))) * (1 : Nat)) ≤ (70368744177664 : Nat)) ∧ ((List.length (((((Vector.toList h_0_Prev) ++ (Vector.toList h_0_Root)) ++ (putL (UInt32.toUInt64 h_0_Time) (4 : Int))) ++ (putL (UInt32.toUInt64 h_0_Bits) (4 : Int))) ++ (putL (UInt32.toUInt64 h_0_Nonce) (4 : Int)))) ≤ (70368744177664 : Nat))) ∧ (Q (ref08_Put_enc (((((Vector.toList h_0_Prev) ++ (Vector.toList h_0_Root)) ++ (putL (UInt32.toUInt64 h_0_Time) (4 : Int))) ++ (putL (UInt32.toUInt64 h_0_Bits) (4 : Int))) ++ (putL (UInt32.toUInt64 h_0_Nonce) (4 : Int))))))))) := by kernel_rfl
theorem ref08_Put_w (h_0_Prev : Vector UInt8 32) (h_0_Root : Vector UInt8 32) (h_0_Time : UInt32) (h_0_Bits : UInt32) (h_0_Nonce : UInt32) {r} {Q : CallOut → Prop} (h : ref08_Put h_0_Prev h_0_Root h_0_Time h_0_Bits h_0_Nonce = some r) (hQ : Q (ref08_Put_enc r)) : evalFnP ref08_Put_C ref08_Put_lv ref08_Put_r ref08_Put_hs ref08_Put_b [.pv (.st [.arr .u8 32 h_0_Prev, .arr .u8 32 h_0_Root, .sc .u32 h_0_Time, .sc .u32 h_0_Bits, .sc .u32 h_0_Nonce])] [] Q :=
  Eq.mpr (ref08_Put_e h_0_Prev h_0_Root h_0_Time h_0_Bits h_0_Nonce Q) (have h := (ref08_Put_q h_0_Prev h_0_Root h_0_Time h_0_Bits h_0_Nonce).symm.trans h; ite_ok h fun hc0 h => ite_ok h fun hc1 h => ite_ok h fun hc2 h => ite_ok h fun hc3 h => ret_ok (Q := Q) (e := ref08_Put_enc) h hQ)
def ref08_Put_c : Ans
  | [.pv (.st [.arr .u8 32 h_0_Prev, .arr .u8 32 h_0_Root, .sc .u32 h_0_Time, .sc .u32 h_0_Bits, .sc .u32 h_0_Nonce])], [] => some (none, ref08_Put_enc (headB h_0_Prev h_0_Root h_0_Time h_0_Bits h_0_Nonce))
  | _, _ => none
theorem ref08_Put_tok : TblOK Tryd.prog theG ref08_Put_T := .cons ⟨by kernel_rfl, ref02_List_ok⟩ (.cons ⟨by kernel_rfl, ref01_Put_ok⟩ (.nil))
theorem ref08_Put_ok : FnOK Tryd.prog theG 22 (unW ref08_Put_c) := by
  refine FnOK.ofC (T := ref08_Put_T) (nt := 45) (np := 0) (nf := false) (hs := ref08_Put_hs) (fn := Tryd.f22) (body := ref08_Put_b) ref08_Put_tok (by kernel_rfl) (by kernel_rfl) (by kernel_rfl) (by kernel_rfl) (c := ref08_Put_c) (lv := ref08_Put_lv) ?_
  intro xs mem p out h hp
  unfold ref08_Put_c at h
  split at h
  · cases h
    exact ref08_Put_w _ _ _ _ _ (ref08_Put_spec _ _ _ _ _) rfl
  · cases h
end
end Go.Proofs.YtbdajagcinfeeaaDoor.M

namespace Go.Proofs.YtbdajagcinfeeaaDoor.M
open Go
noncomputable section
set_option maxRecDepth 100000
set_option maxHeartbeats 0
noncomputable def ref08_Id_T : Tbl := [(22, [], ref08_Put_c), (36, [], ref02_Twice_c)]
noncomputable def ref08_Id_C : CfgW := mkC Tryd.prog theG ref08_Id_T 6 0 false
def ref08_Id_lv : Nat → List Nat := fun i => []
noncomputable abbrev ref08_Id_b : Code := Tryd.f24.body.getD .skip
noncomputable abbrev ref08_Id_r : List ResultVar := Tryd.f24.results.toList
def ref08_Id_hs : List Nat := []

def ref08_Id_enc (r : Vector UInt8 32) : CallOut := ⟨.pv (.arr .u8 32 r), [], true, []⟩
theorem ref08_Id_e (h_0_Prev : Vector UInt8 32) (h_0_Root : Vector UInt8 32) (h_0_Time : UInt32) (h_0_Bits : UInt32) (h_0_Nonce : UInt32) (Q : CallOut → Prop) : evalFnP ref08_Id_C ref08_Id_lv ref08_Id_r ref08_Id_hs ref08_Id_b [.pv (.st [.arr .u8 32 h_0_Prev, .arr .u8 32 h_0_Root, .sc .u32 h_0_Time, .sc .u32 h_0_Bits, .sc .u32 h_0_Nonce])] [] Q =
    (((List.length (headB h_0_Prev h_0_Root h_0_Time h_0_Bits h_0_Nonce)) ≤ (1099511627776 : Nat)) ∧ (Q (ref08_Id_enc (shaSum (Vector.toList (shaSum (headB h_0_Prev h_0_Root h_0_Time h_0_Bits h_0_Nonce))))))) := by kernel_rfl
theorem ref08_Id_w (h_0_Prev : Vector UInt8 32) (h_0_Root : Vector UInt8 32) (h_0_Time : UInt32) (h_0_Bits : UInt32) (h_0_Nonce : UInt32) {r} {Q : CallOut → Prop} (h : ref08_Id h_0_Prev h_0_Root h_0_Time h_0_Bits h_0_Nonce = some r) (hQ : Q (ref08_Id_enc r)) : evalFnP ref08_Id_C ref08_Id_lv ref08_Id_r ref08_Id_hs ref08_Id_b [.pv (.st [.arr .u8 32 h_0_Prev, .arr .u8 32 h_0_Root, .sc .u32 h_0_Time, .sc .u32 h_0_Bits, .sc .u32 h_0_Nonce])] [] Q :=
  Eq.mpr (ref08_Id_e h_0_Prev h_0_Root h_0_Time h_0_Bits h_0_Nonce Q) (have h := (ref08_Id_q h_0_Prev h_0_Root h_0_Time h_0_Bits h_0_Nonce).symm.trans h; ite_ok h fun hc0 h => ret_ok (Q := Q) (e := ref08_Id_enc) h hQ)
def ref08_Id_c : Ans
  | [.pv (.st [.arr .u8 32 h_0_Prev, .arr .u8 32 h_0_Root, .sc .u32 h_0_Time, .sc .u32 h_0_Bits, .sc .u32 h_0_Nonce])], [] => some (none, ref08_Id_enc (idV h_0_Prev h_0_Root h_0_Time h_0_Bits h_0_Nonce))
  | _, _ => none
theorem ref08_Id_tok : TblOK Tryd.prog theG ref08_Id_T := .cons ⟨by kernel_rfl, ref08_Put_ok⟩ (.cons ⟨by kernel_rfl, ref02_Twice_ok⟩ (.nil))
theorem ref08_Id_ok : FnOK Tryd.prog theG 24 (unW ref08_Id_c) := by
  refine FnOK.ofC (T := ref08_Id_T) (nt := 6) (np := 0) (nf := false) (hs := ref08_Id_hs) (fn := Tryd.f24) (body := ref08_Id_b) ref08_Id_tok (by kernel_rfl) (by kernel_rfl) (by kernel_rfl) (by kernel_rfl) (c := ref08_Id_c) (lv := ref08_Id_lv) ?_
  intro xs mem p out h hp
  unfold ref08_Id_c at h
  split at h
  · cases h
    exact ref08_Id_w _ _ _ _ _ (ref08_Id_spec _ _ _ _ _) rfl
  · cases h
end
end Go.Proofs.YtbdajagcinfeeaaDoor.M

namespace Go.Proofs.YtbdajagcinfeeaaDoor.M
open Go
noncomputable section
set_option maxRecDepth 100000
set_option maxHeartbeats 0
noncomputable def ref08_Works_T : Tbl := [(24, [], ref08_Id_c), (47, [], ref04_Meets_c)]
noncomputable def ref08_Works_C : CfgW := mkC Tryd.prog theG ref08_Works_T 8 0 false
def ref08_Works_lv : Nat → List Nat := fun i => []
noncomputable abbrev ref08_Works_b : Code := Tryd.f26.body.getD .skip
noncomputable abbrev ref08_Works_r : List ResultVar := Tryd.f26.results.toList
def ref08_Works_hs : List Nat := []

def ref08_Works_enc (r : Bool) : CallOut := ⟨.pv (.sc .b r), [], true, []⟩
theorem ref08_Works_e (h_0_Prev : Vector UInt8 32) (h_0_Root : Vector UInt8 32) (h_0_Time : UInt32) (h_0_Bits : UInt32) (h_0_Nonce : UInt32) (Q : CallOut → Prop) : evalFnP ref08_Works_C ref08_Works_lv ref08_Works_r ref08_Works_hs ref08_Works_b [.pv (.st [.arr .u8 32 h_0_Prev, .arr .u8 32 h_0_Root, .sc .u32 h_0_Time, .sc .u32 h_0_Bits, .sc .u32 h_0_Nonce])] [] Q =
    (Q (ref08_Works_enc (meetsS (idV h_0_Prev h_0_Root h_0_Time h_0_Bits h_0_Nonce) h_0_Bits))) := by kernel_rfl
theorem ref08_Works_w (h_0_Prev : Vector UInt8 32) (h_0_Root : Vector UInt8 32) (h_0_Time : UInt32) (h_0_Bits : UInt32) (h_0_Nonce : UInt32) {Q : CallOut → Prop} (h : Q (ref08_Works_enc (ref08_Works h_0_Prev h_0_Root h_0_Time h_0_Bits h_0_Nonce))) : evalFnP ref08_Works_C ref08_Works_lv ref08_Works_r ref08_Works_hs ref08_Works_b [.pv (.st [.arr .u8 32 h_0_Prev, .arr .u8 32 h_0_Root, .sc .u32 h_0_Time, .sc .u32 h_0_Bits, .sc .u32 h_0_Nonce])] [] Q :=
  Eq.mpr (ref08_Works_e h_0_Prev h_0_Root h_0_Time h_0_Bits h_0_Nonce Q) (have h := Eq.mp (congrArg (fun r => Q (ref08_Works_enc r)) (ref08_Works_q h_0_Prev h_0_Root h_0_Time h_0_Bits h_0_Nonce)) h; h)
def ref08_Works_c : Ans
  | [.pv (.st [.arr .u8 32 h_0_Prev, .arr .u8 32 h_0_Root, .sc .u32 h_0_Time, .sc .u32 h_0_Bits, .sc .u32 h_0_Nonce])], [] => some (none, ref08_Works_enc (meetsS (idV h_0_Prev h_0_Root h_0_Time h_0_Bits h_0_Nonce) h_0_Bits))
  | _, _ => none
theorem ref08_Works_tok : TblOK Tryd.prog theG ref08_Works_T := .cons ⟨by kernel_rfl, ref08_Id_ok⟩ (.cons ⟨by kernel_rfl, ref04_Meets_ok⟩ (.nil))
theorem ref08_Works_ok : FnOK Tryd.prog theG 26 (unW ref08_Works_c) := by
  refine FnOK.ofC (T := ref08_Works_T) (nt := 8) (np := 0) (nf := false) (hs := ref08_Works_hs) (fn := Tryd.f26) (body := ref08_Works_b) ref08_Works_tok (by kernel_rfl) (by kernel_rfl) (by kernel_rfl) (by kernel_rfl) (c := ref08_Works_c) (lv := ref08_Works_lv) ?_
  intro xs mem p out h hp
  unfold ref08_Works_c at h
  split at h
  · cases h
    exact ref08_Works_w _ _ _ _ _ (congrArg ref08_Works_enc (ref08_Works_spec _ _ _ _ _))
  · cases h
end
end Go.Proofs.YtbdajagcinfeeaaDoor.M
