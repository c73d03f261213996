/- Part of the proofs: what functions of the program do: plain functions, and the walks that show it. No condition. -/
import Derived.KernelRfl
import Derived.Test.YtpgpagmnhikpiaaProg
import Derived.Test.YtpgpagmnhikpiaaLd
import Derived.Test.YtpgpagmnhikpiaaSwords
import Derived.Test.YtpgpagmnhikpiaaScellS
set_option linter.unusedVariables false
set_option linter.unusedSimpArgs false
set_option autoImplicit false
namespace Go.Proofs.Ytpgpagmnhikpiaa.M
open Go
noncomputable section
/-- math/bits.Mul64 -/
def bits_Mul64 (x_0 : UInt64) (y : UInt64) : UInt64 × UInt64 :=
  (((((shr_u64 x_0 (32 : Nat)) * (shr_u64 y (32 : Nat))) + (shr_u64 (((shr_u64 x_0 (32 : Nat)) * (y &&& (4294967295 : UInt64))) + (shr_u64 ((x_0 &&& (4294967295 : UInt64)) * (y &&& (4294967295 : UInt64))) (32 : Nat))) (32 : Nat))) + (shr_u64 (((((shr_u64 x_0 (32 : Nat)) * (y &&& (4294967295 : UInt64))) + (shr_u64 ((x_0 &&& (4294967295 : UInt64)) * (y &&& (4294967295 : UInt64))) (32 : Nat))) &&& (4294967295 : UInt64)) + ((x_0 &&& (4294967295 : UInt64)) * (shr_u64 y (32 : Nat)))) (32 : Nat))), (x_0 * y))
theorem bits_Mul64_q (x_0 : UInt64) (y : UInt64) : bits_Mul64 x_0 y = ((((((shr_u64 x_0 (32 : Nat)) * (shr_u64 y (32 : Nat))) + (shr_u64 (((shr_u64 x_0 (32 : Nat)) * (y &&& (4294967295 : UInt64))) + (shr_u64 ((x_0 &&& (4294967295 : UInt64)) * (y &&& (4294967295 : UInt64))) (32 : Nat))) (32 : Nat))) + (shr_u64 (((((shr_u64 x_0 (32 : Nat)) * (y &&& (4294967295 : UInt64))) + (shr_u64 ((x_0 &&& (4294967295 : UInt64)) * (y &&& (4294967295 : UInt64))) (32 : Nat))) &&& (4294967295 : UInt64)) + ((x_0 &&& (4294967295 : UInt64)) * (shr_u64 y (32 : Nat)))) (32 : Nat))), (x_0 * y))) := by kernel_rfl
theorem bits_Mul64_spec (x y : UInt64) : bits_Mul64 x y = (mulHi x y, mulLo x y) := by
  have hx : x.toNat < 2 ^ 64 := x.toNat_lt
  have hy : y.toNat < 2 ^ 64 := y.toNat_lt
  have lo : ∀ z : UInt64, (z &&& 4294967295).toNat = z.toNat % 4294967296 := by
    intro z
    rw [UInt64.toNat_and]
    exact Nat.and_two_pow_sub_one_eq_mod z.toNat 32
  have hi : ∀ z : UInt64, (shr_u64 z 32).toNat = z.toNat / 4294967296 := by
    intro z
    have := z.toNat_lt
    unfold shr_u64
    rw [UInt64.toNat_ofNat', show min 32 64 = 32 from rfl]
    omega
  unfold bits_Mul64 mulHi mulLo
  rw [lock_eq, lock_eq]
  refine Prod.ext ?_ rfl
  apply UInt64.toNat_inj.1
  simp only [UInt64.toNat_add, UInt64.toNat_mul, lo, hi, UInt64.toNat_ofNat']
  generalize x.toNat = a at *
  generalize y.toNat = b at *
  have e : a * b = (a / 4294967296) * (b / 4294967296) * 18446744073709551616 + ((a / 4294967296) * (b % 4294967296) + (a % 4294967296) * (b / 4294967296)) * 4294967296 + (a % 4294967296) * (b % 4294967296) := by
    have e1 : a = (a / 4294967296) * 4294967296 + a % 4294967296 := by omega
    have e2 : b = (b / 4294967296) * 4294967296 + b % 4294967296 := by omega
    generalize a / 4294967296 = ah at *
    generalize a % 4294967296 = al at *
    generalize b / 4294967296 = bh at *
    generalize b % 4294967296 = bl at *
    subst e1 e2
    grind
  have b1 : a / 4294967296 ≤ 4294967295 := by omega
  have b2 : a % 4294967296 ≤ 4294967295 := by omega
  have b3 : b / 4294967296 ≤ 4294967295 := by omega
  have b4 : b % 4294967296 ≤ 4294967295 := by omega
  rw [e]
  generalize a / 4294967296 = ah at *
  generalize a % 4294967296 = al at *
  generalize b / 4294967296 = bh at *
  generalize b % 4294967296 = bl at *
  have p1 := Nat.mul_le_mul b1 b3
  have p2 := Nat.mul_le_mul b1 b4
  have p3 := Nat.mul_le_mul b2 b3
  have p4 := Nat.mul_le_mul b2 b4
  generalize ah * bh = s at *
  generalize ah * bl = q at *
  generalize al * bh = r at *
  generalize al * bl = p at *
  omega

end
end Go.Proofs.Ytpgpagmnhikpiaa.M

namespace Go.Proofs.Ytpgpagmnhikpiaa.M
open Go
noncomputable section
set_option maxRecDepth 100000
noncomputable def bits_Mul64_T : Tbl := []
noncomputable def bits_Mul64_C : CfgW := mkC Try.prog noG bits_Mul64_T 51 0 false
def bits_Mul64_lv : Nat → List Nat := fun i => []
noncomputable abbrev bits_Mul64_b : Code := Try.f34.body.getD .skip
noncomputable abbrev bits_Mul64_r : List ResultVar := Try.f34.results.toList
def bits_Mul64_hs : List Nat := []

def bits_Mul64_enc (r : UInt64 × UInt64) : CallOut := ⟨.tup [.pv (.sc .u64 r.1), .pv (.sc .u64 r.2)], [], true, []⟩
theorem bits_Mul64_e (x_0 : UInt64) (y : UInt64) (Q : CallOut → Prop) : evalFnP bits_Mul64_C bits_Mul64_lv bits_Mul64_r bits_Mul64_hs bits_Mul64_b [.pv (.sc .u64 x_0), .pv (.sc .u64 y)] [] Q =
    (Q (bits_Mul64_enc (((((shr_u64 x_0 (32 : Nat)) * (shr_u64 y (32 : Nat))) + (shr_u64 (((shr_u64 x_0 (32 : Nat)) * (y &&& (4294967295 : UInt64))) + (shr_u64 ((x_0 &&& (4294967295 : UInt64)) * (y &&& (4294967295 : UInt64))) (32 : Nat))) (32 : Nat))) + (shr_u64 (((((shr_u64 x_0 (32 : Nat)) * (y &&& (4294967295 : UInt64))) + (shr_u64 ((x_0 &&& (4294967295 : UInt64)) * (y &&& (4294967295 : UInt64))) (32 : Nat))) &&& (4294967295 : UInt64)) + ((x_0 &&& (4294967295 : UInt64)) * (shr_u64 y (32 : Nat)))) (32 : Nat))), (x_0 * y)))) := by kernel_rfl
theorem bits_Mul64_w (x_0 : UInt64) (y : UInt64) {Q : CallOut → Prop} (h : Q (bits_Mul64_enc (bits_Mul64 x_0 y))) : evalFnP bits_Mul64_C bits_Mul64_lv bits_Mul64_r bits_Mul64_hs bits_Mul64_b [.pv (.sc .u64 x_0), .pv (.sc .u64 y)] [] Q :=
  Eq.mpr (bits_Mul64_e x_0 y Q) (have h := Eq.mp (congrArg (fun r => Q (bits_Mul64_enc r)) (bits_Mul64_q x_0 y)) h; h)
def bits_Mul64_c : Ans
  | [.pv (.sc .u64 x_0), .pv (.sc .u64 y)], [] => some (none, bits_Mul64_enc ((mulHi x_0 y, mulLo x_0 y)))
  | _, _ => none
theorem bits_Mul64_tok : TblOK Try.prog noG bits_Mul64_T := .nil
theorem bits_Mul64_ok : FnOK Try.prog noG 34 (unW bits_Mul64_c) := by
  refine FnOK.ofC (T := bits_Mul64_T) (nt := 51) (np := 0) (nf := false) (hs := bits_Mul64_hs) (fn := Try.f34) (body := bits_Mul64_b) bits_Mul64_tok (by kernel_rfl) (by kernel_rfl) (by kernel_rfl) (by kernel_rfl) (c := bits_Mul64_c) (lv := bits_Mul64_lv) ?_
  intro xs mem p out h hp
  unfold bits_Mul64_c at h
  split at h
  · cases h
    exact bits_Mul64_w _ _ (congrArg bits_Mul64_enc (bits_Mul64_spec _ _))
  · cases h
end
end Go.Proofs.Ytpgpagmnhikpiaa.M
