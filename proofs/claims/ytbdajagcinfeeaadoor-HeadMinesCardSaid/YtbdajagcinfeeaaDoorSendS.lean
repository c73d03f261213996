/- Part of the proofs: what functions of the program do: plain functions, and the walks that show it. No condition. -/
import Derived.KernelRfl
import Derived.Test.YtbdajagcinfeeaaDoorLe
import Derived.Test.YtbdajagcinfeeaaDoorSbigS
import Derived.Test.YtbdajagcinfeeaaDoorSwords
import Derived.Test.YtbdajagcinfeeaaDoorSshaS
set_option linter.unusedVariables false
set_option linter.unusedSimpArgs false
set_option autoImplicit false
namespace Go.Proofs.YtbdajagcinfeeaaDoor.M
open Go
/-! numbers as bytes -/
def sizeB (n : Int) : Bool := decide (n = 1 ∨ n = 2 ∨ n = 4 ∨ n = 8)
theorem sizeB_le {n : Int} (h : sizeB n = true) : 0 ≤ n ∧ n ≤ 8 := by
  unfold sizeB at h
  rw [decide_eq_true_eq] at h
  omega
def lowF (n i : Nat) : UInt8 := UInt8.ofNat (n / 256 ^ i)
def lowY (n k : Nat) : List UInt8 := (List.range k).map (lowF n)
theorem lowY_len (n k : Nat) : (lowY n k).length = k := by simp [lowY]
theorem lowY_succ (n k : Nat) : lowY n (k + 1) = lowY n k ++ [lowF n k] := by
  unfold lowY
  rw [List.range_succ, List.map_append]
  rfl
theorem toU8 (x : Nat) : UInt64.toUInt8 (UInt64.ofNat x) = UInt8.ofNat x := by
  rw [← UInt8.toNat_inj]
  simp
theorem shr_low (n : UInt64) (i : Nat) (h : i < 8) : UInt64.toUInt8 (shr_u64 n (8 * i)) = lowF n.toNat i := by
  unfold shr_u64 lowF
  rw [toU8, show min (8 * i) 64 = 8 * i by omega, Nat.pow_mul]
def putR (n : UInt64) (many : Int) : Int := if sizeB many = true ∧ n.toNat < 256 ^ many.toNat then 0 else 2
noncomputable def putL (n : UInt64) (many : Int) : List UInt8 := lock (if sizeB many = true ∧ n.toNat < 256 ^ many.toNat then lowY n.toNat many.toNat else [])
theorem putL_eq (n : UInt64) (many : Int) : putL n many = (if sizeB many = true ∧ n.toNat < 256 ^ many.toNat then lowY n.toNat many.toNat else []) := lock_eq _
noncomputable def partE (b : List UInt8) (at_ n : Int) : Int := lock (if at_ < 0 ∨ (b.length : Int) < at_ ∨ n < 0 then 2 else if (b.length : Int) - at_ < n then 4 else 0)
theorem partE_eq (b : List UInt8) (at_ n : Int) : partE b at_ n = (if at_ < 0 ∨ (b.length : Int) < at_ ∨ n < 0 then 2 else if (b.length : Int) - at_ < n then 4 else 0) := lock_eq _
noncomputable def partL (b : List UInt8) (at_ n : Int) : List UInt8 := lock (if partE b at_ n = 0 then (b.drop at_.toNat).take n.toNat else [])
theorem partL_eq (b : List UInt8) (at_ n : Int) : partL b at_ n = (if partE b at_ n = 0 then (b.drop at_.toNat).take n.toNat else []) := lock_eq _
theorem partE_0 {b : List UInt8} {at_ n : Int} (h : partE b at_ n = 0) : 0 ≤ at_ ∧ 0 ≤ n ∧ at_ + n ≤ (b.length : Int) := by
  rw [partE_eq] at h
  split at h
  · cases h
  · split at h
    · cases h
    · omega
theorem partL_len {b : List UInt8} {at_ n : Int} (h : partE b at_ n = 0) : (partL b at_ n).length = n.toNat := by
  have := partE_0 h
  rw [partL_eq, if_pos h, List.length_take, List.length_drop]
  omega
def valN : List UInt8 → Nat
  | [] => 0
  | x :: r => x.toNat + 256 * valN r
theorem valN_lt : ∀ l : List UInt8, valN l < 256 ^ l.length
  | [] => by decide
  | x :: r => by
    have := valN_lt r
    have hx := x.toNat_lt
    rw [valN, List.length_cons, Nat.pow_succ]
    omega
theorem valN_app : ∀ (l r : List UInt8), valN (l ++ r) = valN l + 256 ^ l.length * valN r
  | [], r => by simp [valN]
  | x :: l, r => by
    rw [List.cons_append, valN, valN, valN_app l r, List.length_cons, Nat.pow_succ, Nat.mul_add, ← Nat.mul_assoc, Nat.mul_comm (256 ^ l.length) 256, Nat.add_assoc]
noncomputable def getE (b : List UInt8) (at_ many : Int) : Int := lock (if sizeB many = true then partE b at_ many else 2)
theorem getE_eq (b : List UInt8) (at_ many : Int) : getE b at_ many = (if sizeB many = true then partE b at_ many else 2) := lock_eq _
noncomputable def getN (b : List UInt8) (at_ many : Int) : UInt64 := lock (if getE b at_ many = 0 then UInt64.ofNat (valN (partL b at_ many)) else 0)
theorem getN_eq (b : List UInt8) (at_ many : Int) : getN b at_ many = (if getE b at_ many = 0 then UInt64.ofNat (valN (partL b at_ many)) else 0) := lock_eq _
theorem shr_pos (n : UInt64) (k : Nat) (h : k < 8) : ((0 : UInt64) < shr_u64 n (8 * k)) ↔ 256 ^ k ≤ n.toNat := by
  unfold shr_u64
  have hn := n.toNat_lt
  rw [UInt64.lt_iff_toNat_lt, UInt64.toNat_ofNat', show min (8 * k) 64 = 8 * k by omega, Nat.pow_mul]
  show 0 < n.toNat / 256 ^ k % 2 ^ 64 ↔ _
  have hp : 0 < 256 ^ k := Nat.pow_pos (by decide)
  rw [Nat.mod_eq_of_lt (Nat.lt_of_le_of_lt (Nat.div_le_self _ _) hn), Nat.div_pos_iff]
  exact ⟨fun h => h.2, fun h => ⟨hp, h⟩⟩
theorem u64_zero_lt (x : UInt64) : (0 : UInt64) < x ↔ x ≠ 0 := by
  rw [UInt64.lt_iff_toNat_lt, ne_eq, ← UInt64.toNat_inj]
  show 0 < x.toNat ↔ ¬ x.toNat = 0
  omega
theorem or_low (a x i : Nat) (h : a < 2 ^ i) : a ||| x * 2 ^ i = a + x * 2 ^ i := by
  have := Nat.shiftLeft_add_eq_or_of_lt h x
  rw [Nat.shiftLeft_eq] at this
  rw [Nat.or_comm, ← this, Nat.add_comm]
noncomputable def headB (p r : Vector UInt8 32) (t b n : UInt32) : List UInt8 := lock (Vector.toList p ++ Vector.toList r ++ lowY t.toNat 4 ++ lowY b.toNat 4 ++ lowY n.toNat 4)
theorem headB_eq (p r : Vector UInt8 32) (t b n : UInt32) : headB p r t b n = Vector.toList p ++ Vector.toList r ++ lowY t.toNat 4 ++ lowY b.toNat 4 ++ lowY n.toNat 4 := lock_eq _
theorem headB_len (p r : Vector UInt8 32) (t b n : UInt32) : (headB p r t b n).length = 76 := by rw [headB_eq]; simp [lowY_len]
theorem putL_32 (n : UInt32) : putL (UInt32.toUInt64 n) 4 = lowY n.toNat 4 := by
  have hn := n.toNat_lt
  rw [putL_eq, UInt32.toNat_toUInt64, show (4 : Int).toNat = 4 from rfl, if_pos ⟨rfl, by omega⟩]
end Go.Proofs.YtbdajagcinfeeaaDoor.M

namespace Go.Proofs.YtbdajagcinfeeaaDoor.M
open Go
/-! heads -/
def gP (l : List UInt8) : Vector UInt8 32 := Vector.ofFn fun i : Fin 32 => l.getD i.val 0
def gR (l : List UInt8) : Vector UInt8 32 := Vector.ofFn fun i : Fin 32 => l.getD (32 + i.val) 0
noncomputable def hgP (b : List UInt8) (a : Int) : Vector UInt8 32 := lock (if partE b a 76 = 0 then gP (partL b a 76) else Vector.replicate 32 0)
noncomputable def hgR (b : List UInt8) (a : Int) : Vector UInt8 32 := lock (if partE b a 76 = 0 then gR (partL b a 76) else Vector.replicate 32 0)
noncomputable def hgT (b : List UInt8) (a : Int) : UInt32 := lock (if partE b a 76 = 0 then UInt64.toUInt32 (getN (partL b a 76) 64 4) else 0)
noncomputable def hgB (b : List UInt8) (a : Int) : UInt32 := lock (if partE b a 76 = 0 then UInt64.toUInt32 (getN (partL b a 76) 68 4) else 0)
noncomputable def hgN (b : List UInt8) (a : Int) : UInt32 := lock (if partE b a 76 = 0 then UInt64.toUInt32 (getN (partL b a 76) 72 4) else 0)
noncomputable def hgI (b : List UInt8) (a : Int) : Int := lock (if partE b a 76 = 0 then w64 (a + 76) else 0)
theorem hgP_eq (b : List UInt8) (a : Int) : hgP b a = (if partE b a 76 = 0 then gP (partL b a 76) else Vector.replicate 32 0) := lock_eq _
theorem hgR_eq (b : List UInt8) (a : Int) : hgR b a = (if partE b a 76 = 0 then gR (partL b a 76) else Vector.replicate 32 0) := lock_eq _
theorem hgT_eq (b : List UInt8) (a : Int) : hgT b a = (if partE b a 76 = 0 then UInt64.toUInt32 (getN (partL b a 76) 64 4) else 0) := lock_eq _
theorem hgB_eq (b : List UInt8) (a : Int) : hgB b a = (if partE b a 76 = 0 then UInt64.toUInt32 (getN (partL b a 76) 68 4) else 0) := lock_eq _
theorem hgN_eq (b : List UInt8) (a : Int) : hgN b a = (if partE b a 76 = 0 then UInt64.toUInt32 (getN (partL b a 76) 72 4) else 0) := lock_eq _
theorem hgI_eq (b : List UInt8) (a : Int) : hgI b a = (if partE b a 76 = 0 then w64 (a + 76) else 0) := lock_eq _
/-- of all bytes -/
noncomputable def rdE (b : List UInt8) : Int := lock (if partE b 0 76 = 0 ∧ 76 < b.length then 5 else partE b 0 76)
theorem rdE_eq (b : List UInt8) : rdE b = (if partE b 0 76 = 0 ∧ 76 < b.length then 5 else partE b 0 76) := lock_eq _
noncomputable def rdV (b : List UInt8) (v : Vector UInt8 32) : Vector UInt8 32 := lock (if rdE b = 0 then v else Vector.replicate 32 0)
noncomputable def rdW (b : List UInt8) (v : UInt32) : UInt32 := lock (if rdE b = 0 then v else 0)
theorem rdV_eq (b : List UInt8) (v : Vector UInt8 32) : rdV b v = (if rdE b = 0 then v else Vector.replicate 32 0) := lock_eq _
theorem rdW_eq (b : List UInt8) (v : UInt32) : rdW b v = (if rdE b = 0 then v else 0) := lock_eq _
noncomputable def idV (p r : Vector UInt8 32) (t b n : UInt32) : Vector UInt8 32 := lock (shaSum (Vector.toList (shaSum (headB p r t b n))))
theorem idV_eq (p r : Vector UInt8 32) (t b n : UInt32) : idV p r t b n = shaSum (Vector.toList (shaSum (headB p r t b n))) := lock_eq _
theorem part_get (l : List UInt8) (a n j : Nat) (h : j < n) : List.getD (List.take n (List.drop a l)) j 0 = l.getD (a + j) 0 := by
  simp [List.getD, h]
end Go.Proofs.YtbdajagcinfeeaaDoor.M
