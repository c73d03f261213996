/- Part of the proofs: what functions of the program do: plain functions, and the walks that show it. No condition. -/
import Derived.KernelRfl
import Derived.Test.YtkjillpcmffgoaaDoorProg
import Derived.Test.YtkjillpcmffgoaaDoorLe
import Derived.Test.YtkjillpcmffgoaaDoorSwords
import Derived.Test.YtkjillpcmffgoaaDoorSshaS
import Derived.Test.YtkjillpcmffgoaaDoorSmerS
import Derived.Test.YtkjillpcmffgoaaDoorSlampS
import Derived.Test.YtkjillpcmffgoaaDoorSshaK
set_option linter.unusedVariables false
set_option linter.unusedSimpArgs false
set_option autoImplicit false
namespace Go.Proofs.YtkjillpcmffgoaaDoor.M
open Go
noncomputable section
/-- the loop 0 of moneyer/moneyerref13.Bit -/
def ref13_Bit_h0 : Nat → UInt8 → UInt8 → UInt8 → Option (UInt8)
  | 0, _, _, _ => none
  | k + 1, k_, n, i => bif decide (i < (k_ % (8 : UInt8))) then (ref13_Bit_h0 k k_ (n / (2 : UInt8)) (i + (1 : UInt8)))
      else (some (n % (2 : UInt8)))
theorem ref13_Bit_h0_q (k : Nat) (k_ : UInt8) (n : UInt8) (i : UInt8) : ref13_Bit_h0 (k + 1) k_ n i =
  (bif decide (i < (k_ % (8 : UInt8))) then (ref13_Bit_h0 k k_ (n / (2 : UInt8)) (i + (1 : UInt8)))
      else (some (n % (2 : UInt8)))) := by kernel_rfl
/-- moneyer/moneyerref13.Bit -/
def ref13_Bit (k : Nat) (digest : Vector UInt8 32) (k_1 : UInt8) : Option (UInt8) :=
  if ((0 : Int) ≤ (((UInt8.toNat ((k_1 % (32 : UInt8)) / (8 : UInt8))) : Nat) : Int)) ∧ ((((UInt8.toNat ((k_1 % (32 : UInt8)) / (8 : UInt8))) : Nat) : Int) < (32 : Int)) then
    ref13_Bit_h0 k k_1 (List.getD (Vector.toList digest) (Int.toNat (((UInt8.toNat ((k_1 % (32 : UInt8)) / (8 : UInt8))) : Nat) : Int)) (0 : UInt8)) (0 : UInt8)
  else none
theorem ref13_Bit_q (k : Nat) (digest : Vector UInt8 32) (k_1 : UInt8) : ref13_Bit k digest k_1 = (if ((0 : Int) ≤ (((UInt8.toNat ((k_1 % (32 : UInt8)) / (8 : UInt8))) : Nat) : Int)) ∧ ((((UInt8.toNat ((k_1 % (32 : UInt8)) / (8 : UInt8))) : Nat) : Int) < (32 : Int)) then
    ref13_Bit_h0 k k_1 (List.getD (Vector.toList digest) (Int.toNat (((UInt8.toNat ((k_1 % (32 : UInt8)) / (8 : UInt8))) : Nat) : Int)) (0 : UInt8)) (0 : UInt8)
  else none) := by kernel_rfl
theorem u8_half (x : UInt8) (n : Nat) : shr_u8 x n / 2 = shr_u8 x (n + 1) := by
  unfold shr_u8
  apply UInt8.toNat_inj.1
  have h8 : x.toNat < 256 := UInt8.toNat_lt x
  have h2 : (2 : UInt8).toNat = 2 := rfl
  have a1 : x.toNat / 2 ^ min n 8 ≤ x.toNat := Nat.div_le_self _ _
  have a2 : x.toNat / 2 ^ min (n + 1) 8 ≤ x.toNat := Nat.div_le_self _ _
  rw [UInt8.toNat_div, UInt8.toNat_ofNat', UInt8.toNat_ofNat', h2, Nat.mod_eq_of_lt (by omega), Nat.mod_eq_of_lt (by omega)]
  by_cases h : n < 8
  · rw [show min n 8 = n by omega, show min (n + 1) 8 = n + 1 by omega, Nat.div_div_eq_div_mul, Nat.pow_succ]
  · rw [show min n 8 = 8 by omega, show min (n + 1) 8 = 8 by omega, Nat.div_eq_of_lt (a := x.toNat) (by omega)]
theorem u8_mod2 (x : UInt8) : x % 2 = x &&& 1 := by
  apply UInt8.toNat_inj.1
  rw [UInt8.toNat_mod, UInt8.toNat_and]
  exact (Nat.and_one_is_mod _).symm
theorem shr_u8_0 (x : UInt8) : shr_u8 x 0 = x := by
  unfold shr_u8
  apply UInt8.toNat_inj.1
  have h8 : x.toNat < 256 := UInt8.toNat_lt x
  rw [UInt8.toNat_ofNat']
  simp
theorem u8_mod32_8 (k : UInt8) : (k % 32) % 8 = k % 8 := by
  apply UInt8.toNat_inj.1
  rw [UInt8.toNat_mod, UInt8.toNat_mod, UInt8.toNat_mod]
  show k.toNat % 32 % 8 = k.toNat % 8
  omega
theorem ref13_Bit_spec (d : Vector UInt8 32) (k : UInt8) : Ev (fun n => ref13_Bit n d k) (bitV d k) := by
  refine Ev.same (fun n => ref13_Bit_q n d k) ?_
  have h1 : ((k % 32) / 8).toNat < 32 := by
    rw [UInt8.toNat_div, UInt8.toNat_mod]
    have : k.toNat % (32 : UInt8).toNat < 32 := Nat.mod_lt _ (by decide)
    have h8 : (8 : UInt8).toNat = 8 := rfl
    rw [h8]
    omega
  refine Ev.same (fun n => if_pos ⟨by omega, by omega⟩) ?_
  rw [bitV_eq, Int.toNat_natCast, u8_mod32_8]
  generalize d.toList.getD ((k % 32) / 8).toNat 0 = x
  have hk : (k % 8).toNat < 8 := by rw [UInt8.toNat_mod]; exact Nat.mod_lt _ (by decide)
  generalize hm : (k % 8).toNat = m at hk
  have gen : ∀ j i : Nat, i + j = m → Ev (fun n => ref13_Bit_h0 n k (shr_u8 x i) (UInt8.ofNat i)) (shr_u8 x m &&& 1) := by
    intro j
    induction j with
    | zero =>
      intro i hi
      have : i = m := by omega
      subst this
      refine Ev.done fun n => ?_
      rw [ref13_Bit_h0_q, bif_neg, u8_mod2]
      rw [UInt8.lt_iff_toNat_lt, hm, UInt8.toNat_ofNat']
      omega
    | succ j ih =>
      intro i hi
      refine Ev.step (fun n => ?_) (ih (i + 1) (by omega))
      rw [ref13_Bit_h0_q, bif_pos, u8_half]
      · congr 1
        apply UInt8.toNat_inj.1
        rw [UInt8.toNat_add, UInt8.toNat_ofNat', UInt8.toNat_ofNat']
        show (i % 2 ^ 8 + 1) % 2 ^ 8 = (i + 1) % 2 ^ 8
        omega
      · rw [UInt8.lt_iff_toNat_lt, hm, UInt8.toNat_ofNat']
        omega
  have := gen m 0 (by omega)
  rw [shr_u8_0] at this
  exact this

end
end Go.Proofs.YtkjillpcmffgoaaDoor.M

namespace Go.Proofs.YtkjillpcmffgoaaDoor.M
open Go
noncomputable section
set_option maxRecDepth 100000
set_option maxHeartbeats 0
noncomputable def ref13_Bit_T : Tbl := []
noncomputable def ref13_Bit_C : CfgW := mkC Tryd.prog theG ref13_Bit_T 22 0 false
def ref13_Bit_lv : Nat → List Nat := fun i => bif Nat.beq i 0 then [1, 5, 6] else []
noncomputable abbrev ref13_Bit_b : Code := Tryd.f36.body.getD .skip
noncomputable abbrev ref13_Bit_r : List ResultVar := Tryd.f36.results.toList
def ref13_Bit_hs : List Nat := []

def ref13_Bit_enc (r : UInt8) : CallOut := ⟨.pv (.sc .u8 r), [], true, []⟩
def ref13_Bit_s0 (k_ : UInt8) (n : UInt8) (i : UInt8) : St := ⟨[(1, .pv (.sc .u8 k_)), (5, .pv (.sc .u8 n)), (6, .pv (.sc .u8 i))], []⟩
theorem ref13_Bit_g0 (k_ : UInt8) (n : UInt8) (i : UInt8) (Q : CallOut → Prop) : headRound ref13_Bit_C ref13_Bit_lv [true, true, false, true, false] ref13_Bit_b (ref13_Bit_s0 k_ n i) (fnK ref13_Bit_C ref13_Bit_r ref13_Bit_hs Q) =
    (((8 : UInt8) ≠ (0 : UInt8)) ∧ (condP (decide (i < (k_ % (8 : UInt8)))) (((2 : UInt8) ≠ (0 : UInt8)) ∧ (headP ref13_Bit_C ref13_Bit_lv [true, true, false, true, false] ref13_Bit_b (ref13_Bit_s0 k_ (n / (2 : UInt8)) (i + (1 : UInt8))) (fnK ref13_Bit_C ref13_Bit_r ref13_Bit_hs Q))) (((2 : UInt8) ≠ (0 : UInt8)) ∧ (Q (ref13_Bit_enc (n % (2 : UInt8))))))) := by kernel_rfl
theorem ref13_Bit_k0 {r : UInt8} {Q : CallOut → Prop} (hQ : Q (ref13_Bit_enc r)) : ∀ k : Nat, (∀ (k_ : UInt8) (n : UInt8) (i : UInt8), ref13_Bit_h0 k k_ n i = some r → headP ref13_Bit_C ref13_Bit_lv [true, true, false, true, false] ref13_Bit_b (ref13_Bit_s0 k_ n i) (fnK ref13_Bit_C ref13_Bit_r ref13_Bit_hs Q))
  | 0 => fun _ _ _ h => no_ok h
  | k + 1 => fun k_ n i h => headP_step (Eq.mpr (ref13_Bit_g0 k_ n i Q) (have h := (ref13_Bit_h0_q k k_ n i).symm.trans h; ⟨by decide +kernel, cond_ok h (fun h => ⟨by decide +kernel, (ref13_Bit_k0 hQ k) _ _ _ h⟩) (fun h => ⟨by decide +kernel, ret_ok (Q := Q) (e := ref13_Bit_enc) h hQ⟩)⟩))
theorem ref13_Bit_e (digest : Vector UInt8 32) (k_1 : UInt8) (Q : CallOut → Prop) : evalFnP ref13_Bit_C ref13_Bit_lv ref13_Bit_r ref13_Bit_hs ref13_Bit_b [.pv (.arr .u8 32 digest), .pv (.sc .u8 k_1)] [] Q =
    (((32 : UInt8) ≠ (0 : UInt8)) ∧ (((8 : UInt8) ≠ (0 : UInt8)) ∧ ((((0 : Int) ≤ (((UInt8.toNat ((k_1 % (32 : UInt8)) / (8 : UInt8))) : Nat) : Int)) ∧ ((((UInt8.toNat ((k_1 % (32 : UInt8)) / (8 : UInt8))) : Nat) : Int) < (32 : Int))) ∧ (headP ref13_Bit_C ref13_Bit_lv [true, true, false, true, false] ref13_Bit_b (ref13_Bit_s0 k_1 (List.getD (Vector.toList digest) (Int.toNat (((UInt8.toNat ((k_1 % (32 : UInt8)) / (8 : UInt8))) : Nat) : Int)) (0 : UInt8)) (0 : UInt8)) (fnK ref13_Bit_C ref13_Bit_r ref13_Bit_hs Q))))) := by kernel_rfl
theorem ref13_Bit_w {k : Nat} (digest : Vector UInt8 32) (k_1 : UInt8) {r} {Q : CallOut → Prop} (h : ref13_Bit k digest k_1 = some r) (hQ : Q (ref13_Bit_enc r)) : evalFnP ref13_Bit_C ref13_Bit_lv ref13_Bit_r ref13_Bit_hs ref13_Bit_b [.pv (.arr .u8 32 digest), .pv (.sc .u8 k_1)] [] Q :=
  Eq.mpr (ref13_Bit_e digest k_1 Q) (have h := (ref13_Bit_q k digest k_1).symm.trans h; ⟨by decide +kernel, ⟨by decide +kernel, ite_ok h fun hc0 h => (ref13_Bit_k0 hQ _) _ _ _ h⟩⟩)
def ref13_Bit_c : Ans
  | [.pv (.arr .u8 32 digest), .pv (.sc .u8 k_1)], [] => some (none, ref13_Bit_enc (bitV digest k_1))
  | _, _ => none
theorem ref13_Bit_tok : TblOK Tryd.prog theG ref13_Bit_T := .nil
theorem ref13_Bit_ok : FnOK Tryd.prog theG 36 (unW ref13_Bit_c) := by
  refine FnOK.ofC (T := ref13_Bit_T) (nt := 22) (np := 0) (mv := []) (nf := false) (hs := ref13_Bit_hs) (fn := Tryd.f36) (body := ref13_Bit_b) ref13_Bit_tok (by kernel_rfl) (by kernel_rfl) (by kernel_rfl) (by kernel_rfl) (c := ref13_Bit_c) (lv := ref13_Bit_lv) ?_
  intro xs mem p out h hp
  unfold ref13_Bit_c at h
  split at h
  · cases h
    obtain ⟨k, hk⟩ := ref13_Bit_spec _ _
    exact ref13_Bit_w _ _ hk rfl
  · cases h
end
end Go.Proofs.YtkjillpcmffgoaaDoor.M
