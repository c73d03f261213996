/- Part of the proofs: what functions of the program do: plain functions, and the walks that show it. No condition. -/
import Derived.KernelRfl
import Derived.Test.YtkjillpcmffgoaaDoorProg
import Derived.Test.YtkjillpcmffgoaaDoorLe
import Derived.Test.YtkjillpcmffgoaaDoorSwords
import Derived.Test.YtkjillpcmffgoaaDoorSshaS
import Derived.Test.YtkjillpcmffgoaaDoorSmerS
import Derived.Test.YtkjillpcmffgoaaDoorSshaK
set_option linter.unusedVariables false
set_option linter.unusedSimpArgs false
set_option autoImplicit false
namespace Go.Proofs.YtkjillpcmffgoaaDoor.M
open Go
noncomputable section
/-- moneyer/moneyerref00.Copy -/
def ref00_Copy (b : List UInt8) : Option (List UInt8) :=
  if (((List.length (([] : List UInt8) ++ b)) * (1 : Nat)) ≤ (70368744177664 : Nat)) ∧ ((List.length (([] : List UInt8) ++ b)) ≤ (70368744177664 : Nat)) then
    some (([] : List UInt8) ++ b)
  else none
theorem ref00_Copy_q (b : List UInt8) : ref00_Copy b = (if (((List.length (([] : List UInt8) ++ b)) * (1 : Nat)) ≤ (70368744177664 : Nat)) ∧ ((List.length (([] : List UInt8) ++ b)) ≤ (70368744177664 : Nat)) then
    some (([] : List UInt8) ++ b)
  else none) := by kernel_rfl
theorem ref00_Copy_spec (b : List UInt8) (h : b.length ≤ 70368744177664) : ref00_Copy b = some b := by
  rw [ref00_Copy_q, List.nil_append, if_pos (by omega)]

end
end Go.Proofs.YtkjillpcmffgoaaDoor.M

namespace Go.Proofs.YtkjillpcmffgoaaDoor.M
open Go
noncomputable section
/-- the loop 0 of moneyer/moneyerref00.Hashes -/
def ref00_Hashes_h0 : Nat → (List PV) → (List PV) → Int → Option (Bool)
  | 0, _, _, _ => none
  | k + 1, a, b, i => bif decide (i < (((List.length a) : Nat) : Int)) then (if (((0 : Int) ≤ i) ∧ (i < (((List.length a) : Nat) : Int))) ∧ ((TY.chk (TY.arr EK.u8 (32 : Nat)) (List.getD a (Int.toNat i) PV.nilp)) = true) then
        if (((0 : Int) ≤ i) ∧ (i < (((List.length b) : Nat) : Int))) ∧ ((TY.chk (TY.arr EK.u8 (32 : Nat)) (List.getD b (Int.toNat i) PV.nilp)) = true) then
          bif !(decide ((Vector.toList (PV.vecv EK.u8 (32 : Nat) (List.getD a (Int.toNat i) PV.nilp))) = (Vector.toList (PV.vecv EK.u8 (32 : Nat) (List.getD b (Int.toNat i) PV.nilp))))) then (some false)
            else (ref00_Hashes_h0 k a b (w64 (i + (1 : Int))))
        else none
      else none)
      else (some true)
theorem ref00_Hashes_h0_q (k : Nat) (a : List PV) (b : List PV) (i : Int) : ref00_Hashes_h0 (k + 1) a b i =
  (bif decide (i < (((List.length a) : Nat) : Int)) then (if (((0 : Int) ≤ i) ∧ (i < (((List.length a) : Nat) : Int))) ∧ ((TY.chk (TY.arr EK.u8 (32 : Nat)) (List.getD a (Int.toNat i) PV.nilp)) = true) then
        if (((0 : Int) ≤ i) ∧ (i < (((List.length b) : Nat) : Int))) ∧ ((TY.chk (TY.arr EK.u8 (32 : Nat)) (List.getD b (Int.toNat i) PV.nilp)) = true) then
          bif !(decide ((Vector.toList (PV.vecv EK.u8 (32 : Nat) (List.getD a (Int.toNat i) PV.nilp))) = (Vector.toList (PV.vecv EK.u8 (32 : Nat) (List.getD b (Int.toNat i) PV.nilp))))) then (some false)
            else (ref00_Hashes_h0 k a b (w64 (i + (1 : Int))))
        else none
      else none)
      else (some true)) := by kernel_rfl
/-- moneyer/moneyerref00.Hashes -/
def ref00_Hashes (k : Nat) (a : List PV) (b : List PV) : Option (Bool) :=
  bif !(decide ((((List.length a) : Nat) : Int) = (((List.length b) : Nat) : Int))) then (some false)
    else (ref00_Hashes_h0 k a b (0 : Int))
theorem ref00_Hashes_q (k : Nat) (a : List PV) (b : List PV) : ref00_Hashes k a b = (bif !(decide ((((List.length a) : Nat) : Int) = (((List.length b) : Nat) : Int))) then (some false)
    else (ref00_Hashes_h0 k a b (0 : Int))) := by kernel_rfl
theorem hOfs_eq {a b : List PV} (ha : hashesB a = true) (hb : hashesB b = true) : a = b ↔ hOfs a = hOfs b :=
  ⟨fun h => by rw [h], fun h => by rw [← hArrs_ofs ha, h, hArrs_ofs hb]⟩
theorem ref00_Hashes_spec (a b : List PV) (hp : hashesB a = true ∧ hashesB b = true) : Ev (fun k => ref00_Hashes k a b) (hashesS a b) := by
  obtain ⟨ha, hb⟩ := hp
  have la := hashesB_len ha
  have lb := hashesB_len hb
  have na := hOfs_len a
  have nb := hOfs_len b
  rw [hashesS_eq]
  by_cases hl : a.length = b.length
  · have := same_loop (H := fun k i => ref00_Hashes_h0 k a b i) hZero (a := hOfs a) (b := hOfs b) (by omega)
      (fun k => by rw [ref00_Hashes_h0, bif_neg (by omega)])
      (fun k i hi hne => by
        have c1 := hashesB_at ha (i := i) (by omega)
        have c2 := hashesB_at hb (i := i) (by omega)
        rw [ref00_Hashes_h0, bif_pos (by omega), if_pos ⟨⟨by omega, by omega⟩, c1⟩, if_pos ⟨⟨by omega, by omega⟩, c2⟩]
        rw [← hOf_getD ha (by omega), ← hOf_getD hb (by omega)] at hne
        have e3 : ¬ (Vector.toList (PV.vecv .u8 32 (List.getD a (Int.toNat (i : Int)) .nilp)) = Vector.toList (PV.vecv .u8 32 (List.getD b (Int.toNat (i : Int)) .nilp))) := fun h => hne (Vector.toList_inj.1 h)
        rw [decide_eq_false e3]; rfl)
      (fun k i hi he => by
        have c1 := hashesB_at ha (i := i) (by omega)
        have c2 := hashesB_at hb (i := i) (by omega)
        rw [ref00_Hashes_h0, bif_pos (by omega), if_pos ⟨⟨by omega, by omega⟩, c1⟩, if_pos ⟨⟨by omega, by omega⟩, c2⟩]
        rw [← hOf_getD ha (by omega), ← hOf_getD hb (by omega)] at he
        have e3 : Vector.toList (PV.vecv .u8 32 (List.getD a (Int.toNat (i : Int)) .nilp)) = Vector.toList (PV.vecv .u8 32 (List.getD b (Int.toNat (i : Int)) .nilp)) := congrArg Vector.toList he
        rw [decide_eq_true e3, w64_id (by omega) (by omega)]; rfl)
    refine Ev.same (fun k => ?_) this
    rw [ref00_Hashes, decide_eq_true (p := (((List.length a) : Nat) : Int) = _) (by omega)]
    rfl
  · refine Ev.done fun k => ?_
    rw [ref00_Hashes, decide_eq_false (p := (((List.length a) : Nat) : Int) = _) (by omega), decide_eq_false]
    · rfl
    · intro h
      have := congrArg List.length h
      omega

end
end Go.Proofs.YtkjillpcmffgoaaDoor.M

namespace Go.Proofs.YtkjillpcmffgoaaDoor.M
open Go
noncomputable section
set_option maxRecDepth 100000
set_option maxHeartbeats 0
noncomputable def ref00_Copy_T : Tbl := []
noncomputable def ref00_Copy_C : CfgW := mkC Tryd.prog theG ref00_Copy_T 7 0 false
def ref00_Copy_lv : Nat → List Nat := fun i => []
noncomputable abbrev ref00_Copy_b : Code := Tryd.f58.body.getD .skip
noncomputable abbrev ref00_Copy_r : List ResultVar := Tryd.f58.results.toList
def ref00_Copy_hs : List Nat := []

def ref00_Copy_enc (r : List UInt8) : CallOut := ⟨.o 60000, [(60000, .row (.s .u8 r) false)], true, []⟩
theorem ref00_Copy_e (b : List UInt8) (Q : CallOut → Prop) : evalFnP ref00_Copy_C ref00_Copy_lv ref00_Copy_r ref00_Copy_hs ref00_Copy_b [.pv (.sl .u8 b)] [] Q =
    (((((List.length (([] : List UInt8) ++ b)) * (1 : Nat)) ≤ (70368744177664 : Nat)) ∧ ((List.length (([] : List UInt8) ++ b)) ≤ (70368744177664 : Nat))) ∧ (Q (ref00_Copy_enc (([] : List UInt8) ++ b)))) := by kernel_rfl
theorem ref00_Copy_w (b : List UInt8) {r} {Q : CallOut → Prop} (h : ref00_Copy b = some r) (hQ : Q (ref00_Copy_enc r)) : evalFnP ref00_Copy_C ref00_Copy_lv ref00_Copy_r ref00_Copy_hs ref00_Copy_b [.pv (.sl .u8 b)] [] Q :=
  Eq.mpr (ref00_Copy_e b Q) (have h := (ref00_Copy_q b).symm.trans h; ite_ok h fun hc0 h => ret_ok (Q := Q) (e := ref00_Copy_enc) h hQ)
def ref00_Copy_c : Ans
  | [.pv (.sl .u8 b)], [] => some (some (b.length ≤ 70368744177664), ref00_Copy_enc (b))
  | _, _ => none
theorem ref00_Copy_tok : TblOK Tryd.prog theG ref00_Copy_T := .nil
theorem ref00_Copy_ok : FnOK Tryd.prog theG 58 (unW ref00_Copy_c) := by
  refine FnOK.ofC (T := ref00_Copy_T) (nt := 7) (np := 0) (mv := []) (nf := false) (hs := ref00_Copy_hs) (fn := Tryd.f58) (body := ref00_Copy_b) ref00_Copy_tok (by kernel_rfl) (by kernel_rfl) (by kernel_rfl) (by kernel_rfl) (c := ref00_Copy_c) (lv := ref00_Copy_lv) ?_
  intro xs mem p out h hp
  unfold ref00_Copy_c at h
  split at h
  · cases h
    exact ref00_Copy_w _ (ref00_Copy_spec _ hp) rfl
  · cases h
end
end Go.Proofs.YtkjillpcmffgoaaDoor.M

namespace Go.Proofs.YtkjillpcmffgoaaDoor.M
open Go
noncomputable section
set_option maxRecDepth 100000
set_option maxHeartbeats 0
noncomputable def ref00_Hashes_T : Tbl := []
noncomputable def ref00_Hashes_C : CfgW := mkC Tryd.prog theG ref00_Hashes_T 26 0 false
def ref00_Hashes_lv : Nat → List Nat := fun i => bif Nat.beq i 0 then [0, 1, 5] else []
noncomputable abbrev ref00_Hashes_b : Code := Tryd.f46.body.getD .skip
noncomputable abbrev ref00_Hashes_r : List ResultVar := Tryd.f46.results.toList
def ref00_Hashes_hs : List Nat := []

def ref00_Hashes_enc (r : Bool) : CallOut := ⟨.pv (.sc .b r), [], true, []⟩
def ref00_Hashes_s0 (a : List PV) (b : List PV) (i : Int) : St := ⟨[(0, .pv (.sp 32 a)), (1, .pv (.sp 32 b)), (5, .pv (.sc .i i))], []⟩
theorem ref00_Hashes_g0 (a : List PV) (b : List PV) (i : Int) (Q : CallOut → Prop) : headRound ref00_Hashes_C ref00_Hashes_lv [true, true, false, true, false] ref00_Hashes_b (ref00_Hashes_s0 a b i) (fnK ref00_Hashes_C ref00_Hashes_r ref00_Hashes_hs Q) =
    (condP (decide (i < (((List.length a) : Nat) : Int))) (((((0 : Int) ≤ i) ∧ (i < (((List.length a) : Nat) : Int))) ∧ ((TY.chk (TY.arr EK.u8 (32 : Nat)) (List.getD a (Int.toNat i) PV.nilp)) = true)) ∧ (((((0 : Int) ≤ i) ∧ (i < (((List.length b) : Nat) : Int))) ∧ ((TY.chk (TY.arr EK.u8 (32 : Nat)) (List.getD b (Int.toNat i) PV.nilp)) = true)) ∧ (condP (!(decide ((Vector.toList (PV.vecv EK.u8 (32 : Nat) (List.getD a (Int.toNat i) PV.nilp))) = (Vector.toList (PV.vecv EK.u8 (32 : Nat) (List.getD b (Int.toNat i) PV.nilp)))))) (Q (ref00_Hashes_enc false)) (headP ref00_Hashes_C ref00_Hashes_lv [true, true, false, true, false] ref00_Hashes_b (ref00_Hashes_s0 a b (w64 (i + (1 : Int)))) (fnK ref00_Hashes_C ref00_Hashes_r ref00_Hashes_hs Q))))) (Q (ref00_Hashes_enc true))) := by kernel_rfl
theorem ref00_Hashes_k0 {r : Bool} {Q : CallOut → Prop} (hQ : Q (ref00_Hashes_enc r)) : ∀ k : Nat, (∀ (a : List PV) (b : List PV) (i : Int), ref00_Hashes_h0 k a b i = some r → headP ref00_Hashes_C ref00_Hashes_lv [true, true, false, true, false] ref00_Hashes_b (ref00_Hashes_s0 a b i) (fnK ref00_Hashes_C ref00_Hashes_r ref00_Hashes_hs Q))
  | 0 => fun _ _ _ h => no_ok h
  | k + 1 => fun a b i h => headP_step (Eq.mpr (ref00_Hashes_g0 a b i Q) (have h := (ref00_Hashes_h0_q k a b i).symm.trans h; cond_ok h (fun h => ite_ok h fun hc0 h => ite_ok h fun hc1 h => cond_ok h (fun h => ret_ok (Q := Q) (e := ref00_Hashes_enc) h hQ) (fun h => (ref00_Hashes_k0 hQ k) _ _ _ h)) (fun h => ret_ok (Q := Q) (e := ref00_Hashes_enc) h hQ)))
theorem ref00_Hashes_e (a : List PV) (b : List PV) (Q : CallOut → Prop) : evalFnP ref00_Hashes_C ref00_Hashes_lv ref00_Hashes_r ref00_Hashes_hs ref00_Hashes_b [.pv (.sp 32 a), .pv (.sp 32 b)] [] Q =
    (condP (!(decide ((((List.length a) : Nat) : Int) = (((List.length b) : Nat) : Int)))) (Q (ref00_Hashes_enc false)) (headP ref00_Hashes_C ref00_Hashes_lv [true, true, false, true, false] ref00_Hashes_b (ref00_Hashes_s0 a b (0 : Int)) (fnK ref00_Hashes_C ref00_Hashes_r ref00_Hashes_hs Q))) := by kernel_rfl
theorem ref00_Hashes_w {k : Nat} (a : List PV) (b : List PV) {r} {Q : CallOut → Prop} (h : ref00_Hashes k a b = some r) (hQ : Q (ref00_Hashes_enc r)) : evalFnP ref00_Hashes_C ref00_Hashes_lv ref00_Hashes_r ref00_Hashes_hs ref00_Hashes_b [.pv (.sp 32 a), .pv (.sp 32 b)] [] Q :=
  Eq.mpr (ref00_Hashes_e a b Q) (have h := (ref00_Hashes_q k a b).symm.trans h; cond_ok h (fun h => ret_ok (Q := Q) (e := ref00_Hashes_enc) h hQ) (fun h => (ref00_Hashes_k0 hQ _) _ _ _ h))
def ref00_Hashes_c : Ans
  | [.pv (.sp 32 a), .pv (.sp 32 b)], [] => some (some (hashesB a = true ∧ hashesB b = true), ref00_Hashes_enc (hashesS a b))
  | _, _ => none
theorem ref00_Hashes_tok : TblOK Tryd.prog theG ref00_Hashes_T := .nil
theorem ref00_Hashes_ok : FnOK Tryd.prog theG 46 (unW ref00_Hashes_c) := by
  refine FnOK.ofC (T := ref00_Hashes_T) (nt := 26) (np := 0) (mv := []) (nf := false) (hs := ref00_Hashes_hs) (fn := Tryd.f46) (body := ref00_Hashes_b) ref00_Hashes_tok (by kernel_rfl) (by kernel_rfl) (by kernel_rfl) (by kernel_rfl) (c := ref00_Hashes_c) (lv := ref00_Hashes_lv) ?_
  intro xs mem p out h hp
  unfold ref00_Hashes_c at h
  split at h
  · cases h
    obtain ⟨k, hk⟩ := ref00_Hashes_spec _ _ hp
    exact ref00_Hashes_w _ _ hk rfl
  · cases h
end
end Go.Proofs.YtkjillpcmffgoaaDoor.M
