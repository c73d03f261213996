/- Part of the proofs: what functions of the program do: plain functions, and the walks that show it. No condition. -/
import Derived.KernelRfl
import Derived.Test.YtbdajagcinfeeaaDoorProg
import Derived.Test.YtbdajagcinfeeaaDoorLe
import Derived.Test.YtbdajagcinfeeaaDoorFref02
import Derived.Test.YtbdajagcinfeeaaDoorFref01
import Derived.Test.YtbdajagcinfeeaaDoorSwords
import Derived.Test.YtbdajagcinfeeaaDoorSshaS
import Derived.Test.YtbdajagcinfeeaaDoorSbigS
import Derived.Test.YtbdajagcinfeeaaDoorSendS
import Derived.Test.YtbdajagcinfeeaaDoorStarS
import Derived.Test.YtbdajagcinfeeaaDoorFref04
import Derived.Test.YtbdajagcinfeeaaDoorSheadS
import Derived.Test.YtbdajagcinfeeaaDoorSshaK
set_option linter.unusedVariables false
set_option linter.unusedSimpArgs false
set_option autoImplicit false
namespace Go.Proofs.YtbdajagcinfeeaaDoor.M
open Go
noncomputable section
/-- moneyer/moneyerref08.Put -/
def ref08_Put (h_0_Prev : Vector UInt8 32) (h_0_Root : Vector UInt8 32) (h_0_Time : UInt32) (h_0_Bits : UInt32) (h_0_Nonce : UInt32) : Option (List UInt8) :=
  if (((List.length ((Vector.toList h_0_Prev) ++ (Vector.toList h_0_Root))) * (1 : Nat)) ≤ (70368744177664 : Nat)) ∧ ((List.length ((Vector.toList h_0_Prev) ++ (Vector.toList h_0_Root))) ≤ (70368744177664 : Nat)) then
    if (((List.length (((Vector.toList h_0_Prev) ++ (Vector.toList h_0_Root)) ++ (putL (UInt32.toUInt64 h_0_Time) (4 : Int)))) * (1 : Nat)) ≤ (70368744177664 : Nat)) ∧ ((List.length (((Vector.toList h_0_Prev) ++ (Vector.toList h_0_Root)) ++ (putL (UInt32.toUInt64 h_0_Time) (4 : Int)))) ≤ (70368744177664 : Nat)) then
      if (((List.length ((((Vector.toList h_0_Prev) ++ (Vector.toList h_0_Root)) ++ (putL (UInt32.toUInt64 h_0_Time) (4 : Int))) ++ (putL (UInt32.toUInt64 h_0_Bits) (4 : Int)))) * (1 : Nat)) ≤ (70368744177664 : Nat)) ∧ ((List.length ((((Vector.toList h_0_Prev) ++ (Vector.toList h_0_Root)) ++ (putL (UInt32.toUInt64 h_0_Time) (4 : Int))) ++ (putL (UInt32.toUInt64 h_0_Bits) (4 : Int)))) ≤ (70368744177664 : Nat)) then
        if (((List.length (((((Vector.toList h_0_Prev) ++ (Vector.toList h_0_Root)) ++ (putL (UInt32.toUInt64 h_0_Time) (4 : Int))) ++ (putL (UInt32.toUInt64 h_0_Bits) (4 : Int))) ++ (putL (UInt32.toUInt64 h_0_Nonce) (4 : Int)))) * (1 : Nat)) ≤ (70368744177664 : Nat)) ∧ ((List.length (((((Vector.toList h_0_Prev) ++ (Vector.toList h_0_Root)) ++ (putL (UInt32.toUInt64 h_0_Time) (4 : Int))) ++ (putL (UInt32.toUInt64 h_0_Bits) (4 : Int))) ++ (putL (UInt32.toUInt64 h_0_Nonce) (4 : Int)))) ≤ (70368744177664 : Nat)) then
          some (((((Vector.toList h_0_Prev) ++ (Vector.toList h_0_Root)) ++ (putL (UInt32.toUInt64 h_0_Time) (4 : Int))) ++ (putL (UInt32.toUInt64 h_0_Bits) (4 : Int))) ++ (putL (UInt32.toUInt64 h_0_Nonce) (4 : Int)))
        else none
      else none
    else none
  else none
theorem ref08_Put_q (h_0_Prev : Vector UInt8 32) (h_0_Root : Vector UInt8 32) (h_0_Time : UInt32) (h_0_Bits : UInt32) (h_0_Nonce : UInt32) : ref08_Put h_0_Prev h_0_Root h_0_Time h_0_Bits h_0_Nonce = (if (((List.length ((Vector.toList h_0_Prev) ++ (Vector.toList h_0_Root))) * (1 : Nat)) ≤ (70368744177664 : Nat)) ∧ ((List.length ((Vector.toList h_0_Prev) ++ (Vector.toList h_0_Root))) ≤ (70368744177664 : Nat)) then
    if (((List.length (((Vector.toList h_0_Prev) ++ (Vector.toList h_0_Root)) ++ (putL (UInt32.toUInt64 h_0_Time) (4 : Int)))) * (1 : Nat)) ≤ (70368744177664 : Nat)) ∧ ((List.length (((Vector.toList h_0_Prev) ++ (Vector.toList h_0_Root)) ++ (putL (UInt32.toUInt64 h_0_Time) (4 : Int)))) ≤ (70368744177664 : Nat)) then
      if (((List.length ((((Vector.toList h_0_Prev) ++ (Vector.toList h_0_Root)) ++ (putL (UInt32.toUInt64 h_0_Time) (4 : Int))) ++ (putL (UInt32.toUInt64 h_0_Bits) (4 : Int)))) * (1 : Nat)) ≤ (70368744177664 : Nat)) ∧ ((List.length ((((Vector.toList h_0_Prev) ++ (Vector.toList h_0_Root)) ++ (putL (UInt32.toUInt64 h_0_Time) (4 : Int))) ++ (putL (UInt32.toUInt64 h_0_Bits) (4 : Int)))) ≤ (70368744177664 : Nat)) then
        if (((List.length (((((Vector.toList h_0_Prev) ++ (Vector.toList h_0_Root)) ++ (putL (UInt32.toUInt64 h_0_Time) (4 : Int))) ++ (putL (UInt32.toUInt64 h_0_Bits) (4 : Int))) ++ (putL (UInt32.toUInt64 h_0_Nonce) (4 : Int)))) * (1 : Nat)) ≤ (70368744177664 : Nat)) ∧ ((List.length (((((Vector.toList h_0_Prev) ++ (Vector.toList h_0_Root)) ++ (putL (UInt32.toUInt64 h_0_Time) (4 : Int))) ++ (putL (UInt32.toUInt64 h_0_Bits) (4 : Int))) ++ (putL (UInt32.toUInt64 h_0_Nonce) (4 : Int)))) ≤ (70368744177664 : Nat)) then
          some (((((Vector.toList h_0_Prev) ++ (Vector.toList h_0_Root)) ++ (putL (UInt32.toUInt64 h_0_Time) (4 : Int))) ++ (putL (UInt32.toUInt64 h_0_Bits) (4 : Int))) ++ (putL (UInt32.toUInt64 h_0_Nonce) (4 : Int)))
        else none
      else none
    else none
  else none) := by kernel_rfl
theorem ref08_Put_spec (p r : Vector UInt8 32) (t b n : UInt32) : ref08_Put p r t b n = some (headB p r t b n) := by
  have l0 := lowY_len t.toNat 4
  have l1 := lowY_len b.toNat 4
  have l2 := lowY_len n.toNat 4
  have hp : (Vector.toList p).length = 32 := by simp
  have hr : (Vector.toList r).length = 32 := by simp
  rw [ref08_Put, putL_32, putL_32, putL_32, headB_eq]
  simp only [List.length_append]
  rw [if_pos (by omega), if_pos (by omega), if_pos (by omega), if_pos (by omega)]

end
end Go.Proofs.YtbdajagcinfeeaaDoor.M

namespace Go.Proofs.YtbdajagcinfeeaaDoor.M
open Go
noncomputable section
/-- the loop 0 of moneyer/moneyerref08.Mine -/
def ref08_Mine_h0 : Nat → UInt32 → UInt32 → (Vector UInt8 32) → (Vector UInt8 32) → UInt32 → UInt32 → UInt32 → (Vector UInt8 32) → (Vector UInt8 32) → UInt32 → UInt32 → UInt32 → (Vector UInt32 8) → (Vector UInt32 64) → Option (Vector UInt8 32 × Vector UInt8 32 × UInt32 × UInt32 × UInt32 × Int)
  | 0, _, _, _, _, _, _, _, _, _, _, _, _, _, _ => none
  | k + 1, tries, i, h_, h1, h2, h3, h4, t4, t41, t42, t43, t44, s, s1 => bif decide (i < tries) then (if ((List.length (headB h_ h1 h2 h3 h4)) ≤ (1099511627776 : Nat)) ∧ ((s = shaInit) ∧ (s1 = shaK)) then
        bif meetsS (shaSum (Vector.toList (shaSum (headB h_ h1 h2 h3 h4)))) h3 then (some (h_, h1, h2, h3, h4, (0 : Int)))
          else (ref08_Mine_h0 k tries (i + (1 : UInt32)) h_ h1 h2 h3 (h4 + (1 : UInt32)) t4 t41 t42 t43 t44 s s1)
      else none)
      else (some ((Vector.replicate (32 : Nat) (0 : UInt8)), (Vector.replicate (32 : Nat) (0 : UInt8)), (0 : UInt32), (0 : UInt32), (0 : UInt32), (6 : Int)))
theorem ref08_Mine_h0_q (k : Nat) (tries : UInt32) (i : UInt32) (h_ : Vector UInt8 32) (h1 : Vector UInt8 32) (h2 : UInt32) (h3 : UInt32) (h4 : UInt32) (t4 : Vector UInt8 32) (t41 : Vector UInt8 32) (t42 : UInt32) (t43 : UInt32) (t44 : UInt32) (s : Vector UInt32 8) (s1 : Vector UInt32 64) : ref08_Mine_h0 (k + 1) tries i h_ h1 h2 h3 h4 t4 t41 t42 t43 t44 s s1 =
  (bif decide (i < tries) then (if ((List.length (headB h_ h1 h2 h3 h4)) ≤ (1099511627776 : Nat)) ∧ ((s = shaInit) ∧ (s1 = shaK)) then
        bif meetsS (shaSum (Vector.toList (shaSum (headB h_ h1 h2 h3 h4)))) h3 then (some (h_, h1, h2, h3, h4, (0 : Int)))
          else (ref08_Mine_h0 k tries (i + (1 : UInt32)) h_ h1 h2 h3 (h4 + (1 : UInt32)) t4 t41 t42 t43 t44 s s1)
      else none)
      else (some ((Vector.replicate (32 : Nat) (0 : UInt8)), (Vector.replicate (32 : Nat) (0 : UInt8)), (0 : UInt32), (0 : UInt32), (0 : UInt32), (6 : Int)))) := by kernel_rfl
/-- moneyer/moneyerref08.Mine -/
def ref08_Mine (k : Nat) (h_0_Prev : Vector UInt8 32) (h_0_Root : Vector UInt8 32) (h_0_Time : UInt32) (h_0_Bits : UInt32) (h_0_Nonce : UInt32) (tries : UInt32) : Option (Vector UInt8 32 × Vector UInt8 32 × UInt32 × UInt32 × UInt32 × Int) :=
  bif !(decide ((ofE h_0_Bits) = (0 : Int))) then (some ((Vector.replicate (32 : Nat) (0 : UInt8)), (Vector.replicate (32 : Nat) (0 : UInt8)), (0 : UInt32), (0 : UInt32), (0 : UInt32), (5 : Int)))
    else (ref08_Mine_h0 k tries (0 : UInt32) h_0_Prev h_0_Root h_0_Time h_0_Bits h_0_Nonce (Vector.replicate (32 : Nat) (0 : UInt8)) (Vector.replicate (32 : Nat) (0 : UInt8)) (0 : UInt32) (0 : UInt32) (0 : UInt32) shaInit shaK)
theorem ref08_Mine_q (k : Nat) (h_0_Prev : Vector UInt8 32) (h_0_Root : Vector UInt8 32) (h_0_Time : UInt32) (h_0_Bits : UInt32) (h_0_Nonce : UInt32) (tries : UInt32) : ref08_Mine k h_0_Prev h_0_Root h_0_Time h_0_Bits h_0_Nonce tries = (bif !(decide ((ofE h_0_Bits) = (0 : Int))) then (some ((Vector.replicate (32 : Nat) (0 : UInt8)), (Vector.replicate (32 : Nat) (0 : UInt8)), (0 : UInt32), (0 : UInt32), (0 : UInt32), (5 : Int)))
    else (ref08_Mine_h0 k tries (0 : UInt32) h_0_Prev h_0_Root h_0_Time h_0_Bits h_0_Nonce (Vector.replicate (32 : Nat) (0 : UInt8)) (Vector.replicate (32 : Nat) (0 : UInt8)) (0 : UInt32) (0 : UInt32) (0 : UInt32) shaInit shaK)) := by kernel_rfl
theorem ref08_Mine_spec (p r : Vector UInt8 32) (t b n k : UInt32) : Ev (fun f => ref08_Mine f p r t b n k) (mnV p r t b n k p, mnV p r t b n k r, mnW p r t b n k t, mnW p r t b n k b, mnN p r t b n k, mnE p r t b n k) := by
  refine Ev.same (fun f => ref08_Mine_q f p r t b n k) ?_
  by_cases h : ¬ ofE b = 0
  · rw [← mn_five h]
    exact ⟨0, by simp only []; rw [decide_eq_false h]; rfl⟩
  have h := Classical.not_not.1 h
  refine Ev.same (g := fun f => ref08_Mine_h0 f k 0 p r t b n (Vector.replicate 32 0) (Vector.replicate 32 0) 0 0 0 shaInit shaK) (fun f => by rw [decide_eq_true h]; rfl) ?_
  have hk : k.toNat < 4294967296 := k.toNat_lt
  have gen : ∀ (m i : Nat) (x : UInt32), i + m = k.toNat → Ev (fun f => ref08_Mine_h0 f k (UInt32.ofNat i) p r t b x (Vector.replicate 32 0) (Vector.replicate 32 0) 0 0 0 shaInit shaK) (match mineO p r t b x m with
      | some y => (p, r, t, b, y, (0 : Int))
      | none => (Vector.replicate 32 0, Vector.replicate 32 0, 0, 0, 0, (6 : Int))) := by
    intro m
    induction m with
    | zero =>
      intro i x hi
      refine Ev.done fun f => ?_
      rw [ref08_Mine_h0_q, bif_neg]
      · rfl
      · rw [UInt32.lt_iff_toNat_lt, UInt32.toNat_ofNat']
        show ¬ i % 2 ^ 32 < k.toNat
        omega
    | succ m ih =>
      intro i x hi
      have hl : decide (UInt32.ofNat i < k) = true := by
        apply decide_eq_true
        rw [UInt32.lt_iff_toNat_lt, UInt32.toNat_ofNat']
        show i % 2 ^ 32 < k.toNat
        omega
      rw [mineO]
      cases hm : meetsS (idV p r t b x) b with
      | true =>
        refine Ev.done fun f => ?_
        rw [ref08_Mine_h0_q, hl, cond_true, if_pos ⟨by rw [headB_len]; decide, rfl, rfl⟩, ← idV_eq, hm]
        rfl
      | false =>
        rw [cond_false]
        refine Ev.step (fun f => ?_) (ih (i + 1) (x + 1) (by omega))
        rw [ref08_Mine_h0_q, hl, cond_true, if_pos ⟨by rw [headB_len]; decide, rfl, rfl⟩, ← idV_eq, hm, cond_false]
        congr 1
        apply UInt32.toNat_inj.1
        rw [UInt32.toNat_add, UInt32.toNat_ofNat', UInt32.toNat_ofNat']
        show (i % 2 ^ 32 + 1) % 2 ^ 32 = (i + 1) % 2 ^ 32
        omega
  have g := gen k.toNat 0 n (by omega)
  cases hm : mineO p r t b n k.toNat with
  | none =>
    rw [hm] at g
    rw [← mn_six h hm]
    exact g
  | some x =>
    rw [hm] at g
    rw [← mn_ok h hm]
    exact g

end
end Go.Proofs.YtbdajagcinfeeaaDoor.M

namespace Go.Proofs.YtbdajagcinfeeaaDoor.M
open Go
noncomputable section
set_option maxRecDepth 100000
set_option maxHeartbeats 0
noncomputable def ref08_Put_T : Tbl := [(42, [], ref02_List_c), (44, [], ref01_Put_c)]
noncomputable def ref08_Put_C : CfgW := mkC Tryd.prog theG ref08_Put_T 45 0 false
def ref08_Put_lv : Nat → List Nat := fun i => []
noncomputable abbrev ref08_Put_b : Code := Tryd.f22.body.getD .skip
noncomputable abbrev ref08_Put_r : List ResultVar := Tryd.f22.results.toList
def ref08_Put_hs : List Nat := []

def ref08_Put_enc (r : List UInt8) : CallOut := ⟨.o 60000, [(60000, .row (.s .u8 r) false)], true, []⟩
theorem ref08_Put_e (h_0_Prev : Vector UInt8 32) (h_0_Root : Vector UInt8 32) (h_0_Time : UInt32) (h_0_Bits : UInt32) (h_0_Nonce : UInt32) (Q : CallOut → Prop) : evalFnP ref08_Put_C ref08_Put_lv ref08_Put_r ref08_Put_hs ref08_Put_b [.pv (.st [.arr .u8 32 h_0_Prev, .arr .u8 32 h_0_Root, .sc .u32 h_0_Time, .sc .u32 h_0_Bits, .sc .u32 h_0_Nonce])] [] Q =
    (((((List.length ((Vector.toList h_0_Prev) ++ (Vector.toList h_0_Root))) * (1 : Nat)) ≤ (70368744177664 : Nat)) ∧ ((List.length ((Vector.toList h_0_Prev) ++ (Vector.toList h_0_Root))) ≤ (70368744177664 : Nat))) ∧ (((((List.length (((Vector.toList h_0_Prev) ++ (Vector.toList h_0_Root)) ++ (putL (UInt32.toUInt64 h_0_Time) (4 : Int)))) * (1 : Nat)) ≤ (70368744177664 : Nat)) ∧ ((List.length (((Vector.toList h_0_Prev) ++ (Vector.toList h_0_Root)) ++ (putL (UInt32.toUInt64 h_0_Time) (4 : Int)))) ≤ (70368744177664 : Nat))) ∧ (((((List.length ((((Vector.toList h_0_Prev) ++ (Vector.toList h_0_Root)) ++ (putL (UInt32.toUInt64 h_0_Time) (4 : Int))) ++ (putL (UInt32.toUInt64 h_0_Bits) (4 : Int)))) * (1 : Nat)) ≤ (70368744177664 : Nat)) ∧ ((List.length ((((Vector.toList h_0_Prev) ++ (Vector.toList h_0_Root)) ++ (putL (UInt32.toUInt64 h_0_Time) (4 : Int))) ++ (putL (UInt32.toUInt64 h_0_Bits) (4 : Int)))) ≤ (70368744177664 : Nat))) ∧ (((((List.length (((((Vector.toList h_0_Prev) ++ (Vector.toList h_0_Root)) ++ (putL (UInt32.toUInt64 h_0_Time) (4 : Int))) ++ (putL (UInt32.toUInt64 h_0_Bits) (4 : Int))) ++ (putL (UInt32.toUInt64 h_0_Nonce) (4 : Int)))) * (1 : Nat)) ≤ (70368744177664 : Nat)) ∧ ((List.length (((((Vector.toList h_0_Prev) ++ (Vector.toList h_0_Root)) ++ (putL (UInt32.toUInt64 h_0_Time) (4 : Int))) ++ (putL (UInt32.toUInt64 h_0_Bits) (4 : Int))) ++ (putL (UInt32.toUInt64 h_0_Nonce) (4 : Int)))) ≤ (70368744177664 : Nat))) ∧ (Q (ref08_Put_enc (((((Vector.toList h_0_Prev) ++ (Vector.toList h_0_Root)) ++ (putL (UInt32.toUInt64 h_0_Time) (4 : Int))) ++ (putL (UInt32.toUInt64 h_0_Bits) (4 : Int))) ++ (putL (UInt32.toUInt64 h_0_Nonce) (4 : Int))))))))) := by kernel_rfl
theorem ref08_Put_w (h_0_Prev : Vector UInt8 32) (h_0_Root : Vector UInt8 32) (h_0_Time : UInt32) (h_0_Bits : UInt32) (h_0_Nonce : UInt32) {r} {Q : CallOut → Prop} (h : ref08_Put h_0_Prev h_0_Root h_0_Time h_0_Bits h_0_Nonce = some r) (hQ : Q (ref08_Put_enc r)) : evalFnP ref08_Put_C ref08_Put_lv ref08_Put_r ref08_Put_hs ref08_Put_b [.pv (.st [.arr .u8 32 h_0_Prev, .arr .u8 32 h_0_Root, .sc .u32 h_0_Time, .sc .u32 h_0_Bits, .sc .u32 h_0_Nonce])] [] Q :=
  Eq.mpr (ref08_Put_e h_0_Prev h_0_Root h_0_Time h_0_Bits h_0_Nonce Q) (have h := (ref08_Put_q h_0_Prev h_0_Root h_0_Time h_0_Bits h_0_Nonce).symm.trans h; ite_ok h fun hc0 h => ite_ok h fun hc1 h => ite_ok h fun hc2 h => ite_ok h fun hc3 h => ret_ok (Q := Q) (e := ref08_Put_enc) h hQ)
def ref08_Put_c : Ans
  | [.pv (.st [.arr .u8 32 h_0_Prev, .arr .u8 32 h_0_Root, .sc .u32 h_0_Time, .sc .u32 h_0_Bits, .sc .u32 h_0_Nonce])], [] => some (none, ref08_Put_enc (headB h_0_Prev h_0_Root h_0_Time h_0_Bits h_0_Nonce))
  | _, _ => none
theorem ref08_Put_tok : TblOK Tryd.prog theG ref08_Put_T := .cons ⟨by kernel_rfl, ref02_List_ok⟩ (.cons ⟨by kernel_rfl, ref01_Put_ok⟩ (.nil))
theorem ref08_Put_ok : FnOK Tryd.prog theG 22 (unW ref08_Put_c) := by
  refine FnOK.ofC (T := ref08_Put_T) (nt := 45) (np := 0) (mv := []) (nf := false) (hs := ref08_Put_hs) (fn := Tryd.f22) (body := ref08_Put_b) ref08_Put_tok (by kernel_rfl) (by kernel_rfl) (by kernel_rfl) (by kernel_rfl) (c := ref08_Put_c) (lv := ref08_Put_lv) ?_
  intro xs mem p out h hp
  unfold ref08_Put_c at h
  split at h
  · cases h
    exact ref08_Put_w _ _ _ _ _ (ref08_Put_spec _ _ _ _ _) rfl
  · cases h
end
end Go.Proofs.YtbdajagcinfeeaaDoor.M

namespace Go.Proofs.YtbdajagcinfeeaaDoor.M
open Go
noncomputable section
set_option maxRecDepth 100000
set_option maxHeartbeats 0
noncomputable def ref08_Mine_T : Tbl := [(56, [], ref04_Of_c), (40, [], ref02_New_c), (22, [], ref08_Put_c), (41, [], ref02_hTwice_c), (47, [], ref04_Meets_c)]
noncomputable def ref08_Mine_C : CfgW := mkC Tryd.prog theG ref08_Mine_T 38 0 false
def ref08_Mine_lv : Nat → List Nat := fun i => bif Nat.beq i 0 then [1, 2, 4, 8, 9] else []
noncomputable abbrev ref08_Mine_b : Code := Tryd.f33.body.getD .skip
noncomputable abbrev ref08_Mine_r : List ResultVar := Tryd.f33.results.toList
def ref08_Mine_hs : List Nat := []

def ref08_Mine_enc (r : Vector UInt8 32 × Vector UInt8 32 × UInt32 × UInt32 × UInt32 × Int) : CallOut := ⟨.tup [.pv (.st [.arr .u8 32 r.1, .arr .u8 32 r.2.1, .sc .u32 r.2.2.1, .sc .u32 r.2.2.2.1, .sc .u32 r.2.2.2.2.1]), .pv (.sc .i r.2.2.2.2.2)], [], true, []⟩
def ref08_Mine_s0 (tries : UInt32) (i : UInt32) (h_ : Vector UInt8 32) (h1 : Vector UInt8 32) (h2 : UInt32) (h3 : UInt32) (h4 : UInt32) (t4 : Vector UInt8 32) (t41 : Vector UInt8 32) (t42 : UInt32) (t43 : UInt32) (t44 : UInt32) (s : Vector UInt32 8) (s1 : Vector UInt32 64) : St := ⟨[(1, .pv (.sc .u32 tries)), (2, .p 60000 []), (4, .p 60001 []), (8, .p 60002 []), (9, .pv (.sc .u32 i))], [(60000, .box (.pv (.st [.arr .u8 32 h_, .arr .u8 32 h1, .sc .u32 h2, .sc .u32 h3, .sc .u32 h4]))), (60001, .box (.pv (.st [.arr .u8 32 t4, .arr .u8 32 t41, .sc .u32 t42, .sc .u32 t43, .sc .u32 t44]))), (60002, .box (.pv (.st [.arr .u32 8 s, .arr .u32 64 s1])))]⟩
theorem ref08_Mine_g0 (tries : UInt32) (i : UInt32) (h_ : Vector UInt8 32) (h1 : Vector UInt8 32) (h2 : UInt32) (h3 : UInt32) (h4 : UInt32) (t4 : Vector UInt8 32) (t41 : Vector UInt8 32) (t42 : UInt32) (t43 : UInt32) (t44 : UInt32) (s : Vector UInt32 8) (s1 : Vector UInt32 64) (Q : CallOut → Prop) : headRound ref08_Mine_C ref08_Mine_lv [true, true, true, false, true, false] ref08_Mine_b (ref08_Mine_s0 tries i h_ h1 h2 h3 h4 t4 t41 t42 t43 t44 s s1) (fnK ref08_Mine_C ref08_Mine_r ref08_Mine_hs Q) =
    (condP (decide (i < tries)) ((((List.length (headB h_ h1 h2 h3 h4)) ≤ (1099511627776 : Nat)) ∧ ((s = shaInit) ∧ (s1 = shaK))) ∧ (condP (meetsS (shaSum (Vector.toList (shaSum (headB h_ h1 h2 h3 h4)))) h3) (Q (ref08_Mine_enc (h_, h1, h2, h3, h4, (0 : Int)))) (headP ref08_Mine_C ref08_Mine_lv [true, true, true, false, true, false] ref08_Mine_b (ref08_Mine_s0 tries (i + (1 : UInt32)) h_ h1 h2 h3 (h4 + (1 : UInt32)) t4 t41 t42 t43 t44 s s1) (fnK ref08_Mine_C ref08_Mine_r ref08_Mine_hs Q)))) (Q (ref08_Mine_enc ((Vector.replicate (32 : Nat) (0 : UInt8)), (Vector.replicate (32 : Nat) (0 : UInt8)), (0 : UInt32), (0 : UInt32), (0 : UInt32), (6 : Int))))) := by kernel_rfl
theorem ref08_Mine_k0 {r : Vector UInt8 32 × Vector UInt8 32 × UInt32 × UInt32 × UInt32 × Int} {Q : CallOut → Prop} (hQ : Q (ref08_Mine_enc r)) : ∀ k : Nat, (∀ (tries : UInt32) (i : UInt32) (h_ : Vector UInt8 32) (h1 : Vector UInt8 32) (h2 : UInt32) (h3 : UInt32) (h4 : UInt32) (t4 : Vector UInt8 32) (t41 : Vector UInt8 32) (t42 : UInt32) (t43 : UInt32) (t44 : UInt32) (s : Vector UInt32 8) (s1 : Vector UInt32 64), ref08_Mine_h0 k tries i h_ h1 h2 h3 h4 t4 t41 t42 t43 t44 s s1 = some r → headP ref08_Mine_C ref08_Mine_lv [true, true, true, false, true, false] ref08_Mine_b (ref08_Mine_s0 tries i h_ h1 h2 h3 h4 t4 t41 t42 t43 t44 s s1) (fnK ref08_Mine_C ref08_Mine_r ref08_Mine_hs Q))
  | 0 => fun _ _ _ _ _ _ _ _ _ _ _ _ _ _ h => no_ok h
  | k + 1 => fun tries i h_ h1 h2 h3 h4 t4 t41 t42 t43 t44 s s1 h => headP_step (Eq.mpr (ref08_Mine_g0 tries i h_ h1 h2 h3 h4 t4 t41 t42 t43 t44 s s1 Q) (have h := (ref08_Mine_h0_q k tries i h_ h1 h2 h3 h4 t4 t41 t42 t43 t44 s s1).symm.trans h; cond_ok h (fun h => ite_ok h fun hc0 h => cond_ok h (fun h => ret_ok (Q := Q) (e := ref08_Mine_enc) h hQ) (fun h => (ref08_Mine_k0 hQ k) _ _ _ _ _ _ _ _ _ _ _ _ _ _ h)) (fun h => ret_ok (Q := Q) (e := ref08_Mine_enc) h hQ)))
theorem ref08_Mine_e (h_0_Prev : Vector UInt8 32) (h_0_Root : Vector UInt8 32) (h_0_Time : UInt32) (h_0_Bits : UInt32) (h_0_Nonce : UInt32) (tries : UInt32) (Q : CallOut → Prop) : evalFnP ref08_Mine_C ref08_Mine_lv ref08_Mine_r ref08_Mine_hs ref08_Mine_b [.pv (.st [.arr .u8 32 h_0_Prev, .arr .u8 32 h_0_Root, .sc .u32 h_0_Time, .sc .u32 h_0_Bits, .sc .u32 h_0_Nonce]), .pv (.sc .u32 tries)] [] Q =
    (condP (!(decide ((ofE h_0_Bits) = (0 : Int)))) (Q (ref08_Mine_enc ((Vector.replicate (32 : Nat) (0 : UInt8)), (Vector.replicate (32 : Nat) (0 : UInt8)), (0 : UInt32), (0 : UInt32), (0 : UInt32), (5 : Int)))) (headP ref08_Mine_C ref08_Mine_lv [true, true, true, false, true, false] ref08_Mine_b (ref08_Mine_s0 tries (0 : UInt32) h_0_Prev h_0_Root h_0_Time h_0_Bits h_0_Nonce (Vector.replicate (32 : Nat) (0 : UInt8)) (Vector.replicate (32 : Nat) (0 : UInt8)) (0 : UInt32) (0 : UInt32) (0 : UInt32) shaInit shaK) (fnK ref08_Mine_C ref08_Mine_r ref08_Mine_hs Q))) := by kernel_rfl
theorem ref08_Mine_w {k : Nat} (h_0_Prev : Vector UInt8 32) (h_0_Root : Vector UInt8 32) (h_0_Time : UInt32) (h_0_Bits : UInt32) (h_0_Nonce : UInt32) (tries : UInt32) {r} {Q : CallOut → Prop} (h : ref08_Mine k h_0_Prev h_0_Root h_0_Time h_0_Bits h_0_Nonce tries = some r) (hQ : Q (ref08_Mine_enc r)) : evalFnP ref08_Mine_C ref08_Mine_lv ref08_Mine_r ref08_Mine_hs ref08_Mine_b [.pv (.st [.arr .u8 32 h_0_Prev, .arr .u8 32 h_0_Root, .sc .u32 h_0_Time, .sc .u32 h_0_Bits, .sc .u32 h_0_Nonce]), .pv (.sc .u32 tries)] [] Q :=
  Eq.mpr (ref08_Mine_e h_0_Prev h_0_Root h_0_Time h_0_Bits h_0_Nonce tries Q) (have h := (ref08_Mine_q k h_0_Prev h_0_Root h_0_Time h_0_Bits h_0_Nonce tries).symm.trans h; cond_ok h (fun h => ret_ok (Q := Q) (e := ref08_Mine_enc) h hQ) (fun h => (ref08_Mine_k0 hQ _) _ _ _ _ _ _ _ _ _ _ _ _ _ _ h))
def ref08_Mine_c : Ans
  | [.pv (.st [.arr .u8 32 h_0_Prev, .arr .u8 32 h_0_Root, .sc .u32 h_0_Time, .sc .u32 h_0_Bits, .sc .u32 h_0_Nonce]), .pv (.sc .u32 tries)], [] => some (none, ref08_Mine_enc ((mnV h_0_Prev h_0_Root h_0_Time h_0_Bits h_0_Nonce tries h_0_Prev, mnV h_0_Prev h_0_Root h_0_Time h_0_Bits h_0_Nonce tries h_0_Root, mnW h_0_Prev h_0_Root h_0_Time h_0_Bits h_0_Nonce tries h_0_Time, mnW h_0_Prev h_0_Root h_0_Time h_0_Bits h_0_Nonce tries h_0_Bits, mnN h_0_Prev h_0_Root h_0_Time h_0_Bits h_0_Nonce tries, mnE h_0_Prev h_0_Root h_0_Time h_0_Bits h_0_Nonce tries)))
  | _, _ => none
theorem ref08_Mine_tok : TblOK Tryd.prog theG ref08_Mine_T := .cons ⟨by kernel_rfl, ref04_Of_ok⟩ (.cons ⟨by kernel_rfl, ref02_New_ok⟩ (.cons ⟨by kernel_rfl, ref08_Put_ok⟩ (.cons ⟨by kernel_rfl, ref02_hTwice_ok⟩ (.cons ⟨by kernel_rfl, ref04_Meets_ok⟩ (.nil)))))
theorem ref08_Mine_ok : FnOK Tryd.prog theG 33 (unW ref08_Mine_c) := by
  refine FnOK.ofC (T := ref08_Mine_T) (nt := 38) (np := 0) (mv := []) (nf := false) (hs := ref08_Mine_hs) (fn := Tryd.f33) (body := ref08_Mine_b) ref08_Mine_tok (by kernel_rfl) (by kernel_rfl) (by kernel_rfl) (by kernel_rfl) (c := ref08_Mine_c) (lv := ref08_Mine_lv) ?_
  intro xs mem p out h hp
  unfold ref08_Mine_c at h
  split at h
  · cases h
    obtain ⟨k, hk⟩ := ref08_Mine_spec _ _ _ _ _ _
    exact ref08_Mine_w _ _ _ _ _ _ hk rfl
  · cases h
end
end Go.Proofs.YtbdajagcinfeeaaDoor.M
