/- Part of the proofs: what functions of the program do: plain functions, and the walks that show it. No condition. -/
import Derived.KernelRfl
import Derived.Test.YtbdajagcinfeeaaDoorLe
import Derived.Test.YtbdajagcinfeeaaDoorSbigS
import Derived.Test.YtbdajagcinfeeaaDoorSwords
import Derived.Test.YtbdajagcinfeeaaDoorSbigB
set_option linter.unusedVariables false
set_option linter.unusedSimpArgs false
set_option autoImplicit false
namespace Go.Proofs.YtbdajagcinfeeaaDoor.M
open Go
/-! targets and their bits -/
theorem lenN_pos {t : Nat} (h : t ≠ 0) : 1 ≤ lenN t ∧ 2 ^ (lenN t - 1) ≤ t ∧ t < 2 ^ lenN t := by
  have h1 : t < 2 ^ lenN t := lenN_le.1 (Nat.le_refl _)
  have h0 : 1 ≤ lenN t := by
    by_cases c : 1 ≤ lenN t
    · exact c
    · rw [show lenN t = 0 by omega, Nat.pow_zero] at h1
      omega
  refine ⟨h0, ?_, h1⟩
  by_cases c : 2 ^ (lenN t - 1) ≤ t
  · exact c
  · have := lenN_le.2 (show t < 2 ^ (lenN t - 1) by omega)
    omega
noncomputable def cN (t : Nat) : Nat := lenN t / 8 + 1
noncomputable def cM (t : Nat) : Nat := if cN t ≤ 3 then t * 2 ^ (8 * (3 - cN t)) else t / 2 ^ (8 * (cN t - 3))
noncomputable def bitsN (t : Nat) : Nat := if t = 0 then 0 else cN t * 16777216 + cM t
def tgtN (b : Nat) : Nat := if b / 16777216 ≤ 3 then b % 8388608 / 2 ^ (8 * (3 - b / 16777216)) else b % 8388608 * 2 ^ (8 * (b / 16777216 - 3))
def okP (b : Nat) : Prop := tgtN b < 2 ^ 256 ∧ b / 8388608 % 2 = 0 ∧ tgtN b ≠ 0 ∧ bitsN (tgtN b) = b
noncomputable instance (b : Nat) : Decidable (okP b) := inferInstanceAs (Decidable (_ ∧ _ ∧ _ ∧ _))
theorem cM_bounds {t : Nat} (h : t ≠ 0) : 32768 ≤ cM t ∧ cM t < 8388608 := by
  obtain ⟨h0, h1, h2⟩ := lenN_pos h
  unfold cM
  by_cases c : cN t ≤ 3
  · rw [if_pos c]
    have e1 : 2 ^ (lenN t) * 2 ^ (8 * (3 - cN t)) ≤ 2 ^ 23 := by
      rw [← Nat.pow_add]
      exact Nat.pow_le_pow_right (by decide) (by unfold cN at *; omega)
    have e2 : 2 ^ 15 ≤ 2 ^ (lenN t - 1) * 2 ^ (8 * (3 - cN t)) := by
      rw [← Nat.pow_add]
      exact Nat.pow_le_pow_right (by decide) (by unfold cN at *; omega)
    have e3 := Nat.mul_lt_mul_of_pos_right h2 (Nat.two_pow_pos (8 * (3 - cN t)))
    have e4 := Nat.mul_le_mul_right (2 ^ (8 * (3 - cN t))) h1
    omega
  · rw [if_neg c]
    have pp := Nat.two_pow_pos (8 * (cN t - 3))
    constructor
    · rw [Nat.le_div_iff_mul_le pp, show 32768 = 2 ^ 15 from rfl, ← Nat.pow_add]
      exact Nat.le_trans (Nat.pow_le_pow_right (by decide) (by unfold cN at *; omega)) h1
    · rw [Nat.div_lt_iff_lt_mul pp, show 8388608 = 2 ^ 23 from rfl, ← Nat.pow_add]
      exact Nat.lt_of_lt_of_le h2 (Nat.pow_le_pow_right (by decide) (by unfold cN at *; omega))
theorem bitsN_lt {t : Nat} (h : t < 2 ^ 256) : bitsN t < 4294967296 := by
  by_cases c : t = 0
  · unfold bitsN; rw [if_pos c]; decide
  · have hl : lenN t ≤ 256 := lenN_le.2 h
    have := cM_bounds c
    unfold bitsN cN
    rw [if_neg c]
    omega
/-! the answers -/
noncomputable def bitsW (t : Vector UInt64 4) : UInt32 := lock (UInt32.ofNat (bitsN (uV t)))
theorem bitsW_eq (t : Vector UInt64 4) : bitsW t = UInt32.ofNat (bitsN (uV t)) := lock_eq _
theorem bitsW_val (t : Vector UInt64 4) : (bitsW t).toNat = bitsN (uV t) := by
  rw [bitsW_eq, UInt32.toNat_ofNat']
  exact Nat.mod_eq_of_lt (bitsN_lt (by rw [two256]; exact uV_lt t))
noncomputable def ofV (b : UInt32) : Vector UInt64 4 := lock (if okP b.toNat then uW (tgtN b.toNat) else Vector.replicate 4 0)
theorem ofV_eq (b : UInt32) : ofV b = (if okP b.toNat then uW (tgtN b.toNat) else Vector.replicate 4 0) := lock_eq _
noncomputable def ofE (b : UInt32) : Int := lock (if okP b.toNat then 0 else 5)
theorem ofE_eq (b : UInt32) : ofE b = (if okP b.toNat then 0 else 5) := lock_eq _
noncomputable def byN (t : Nat) : Nat := (lenN t + 7) / 8
noncomputable def preX (t : Nat) : Nat := if byN t ≤ 3 then t * 2 ^ (8 * (3 - byN t)) else t / 2 ^ (8 * (byN t - 3))
theorem bits_pre {t : Nat} (h : t ≠ 0) : preX t < 16777216 ∧ bitsN t = if 8388607 < preX t then (byN t + 1) * 16777216 + preX t / 256 else byN t * 16777216 + preX t := by
  obtain ⟨h0, h1, h2⟩ := lenN_pos h
  by_cases c8 : lenN t % 8 = 0
  · have hn : cN t = byN t + 1 := by unfold cN byN; omega
    have hx : 8388607 < preX t ∧ preX t < 16777216 := by
      unfold preX
      by_cases c : byN t ≤ 3
      · rw [if_pos c]
        have e1 : 2 ^ 23 ≤ 2 ^ (lenN t - 1) * 2 ^ (8 * (3 - byN t)) := by
          rw [← Nat.pow_add]
          exact Nat.pow_le_pow_right (by decide) (by unfold byN at *; omega)
        have e2 := Nat.mul_le_mul_right (2 ^ (8 * (3 - byN t))) h1
        have e3 : 2 ^ (lenN t) * 2 ^ (8 * (3 - byN t)) ≤ 2 ^ 24 := by
          rw [← Nat.pow_add]
          exact Nat.pow_le_pow_right (by decide) (by unfold byN at *; omega)
        have e4 := Nat.mul_lt_mul_of_pos_right h2 (Nat.two_pow_pos (8 * (3 - byN t)))
        omega
      · rw [if_neg c]
        have pp := Nat.two_pow_pos (8 * (byN t - 3))
        constructor
        · refine Nat.lt_of_lt_of_le (show 8388607 < 2 ^ 23 by decide) ?_
          rw [Nat.le_div_iff_mul_le pp, ← Nat.pow_add]
          exact Nat.le_trans (Nat.pow_le_pow_right (by decide) (by unfold byN at *; omega)) h1
        · rw [Nat.div_lt_iff_lt_mul pp, show 16777216 = 2 ^ 24 from rfl, ← Nat.pow_add]
          exact Nat.lt_of_lt_of_le h2 (Nat.pow_le_pow_right (by decide) (by unfold byN at *; omega))
    refine ⟨hx.2, ?_⟩
    rw [if_pos hx.1]
    unfold bitsN
    rw [if_neg h, hn]
    congr 1
    unfold cM preX
    rw [hn]
    by_cases c : byN t ≤ 3
    · rw [if_pos c]
      by_cases c3 : byN t + 1 ≤ 3
      · rw [if_pos c3, show 8 * (3 - byN t) = 8 * (3 - (byN t + 1)) + 8 by omega, Nat.pow_add, ← Nat.mul_assoc, show 256 = 2 ^ 8 from rfl, Nat.mul_div_cancel _ (by decide)]
      · rw [if_neg c3, show 8 * (byN t + 1 - 3) = 8 by omega, show 8 * (3 - byN t) = 0 by omega, Nat.pow_zero, Nat.mul_one]
    · rw [if_neg c, if_neg (by omega), show 8 * (byN t + 1 - 3) = 8 * (byN t - 3) + 8 by omega, Nat.pow_add, ← Nat.div_div_eq_div_mul]
  · have hn : cN t = byN t := by unfold cN byN; omega
    have hx : preX t = cM t := by unfold preX cM; rw [hn]
    have := cM_bounds h
    rw [hx]
    refine ⟨by omega, ?_⟩
    rw [if_neg (by omega)]
    unfold bitsN
    rw [if_neg h, hn]
theorem byN_zero {t : Nat} : byN t = 0 ↔ t = 0 := by
  unfold byN
  constructor
  · intro h
    by_cases c : t = 0
    · exact c
    · have := (lenN_pos c).1
      omega
  · intro h
    rw [h, lenN_zero]
theorem byN_le {t : Nat} (h : t < 2 ^ 256) : byN t ≤ 32 := by
  have := lenN_le.2 h
  unfold byN
  omega
theorem sh24 (n : Nat) (x : UInt32) (hn : n < 256) (hx : x.toNat < 16777216) : (shl_u32 (UInt32.ofInt ((n : Nat) : Int)) 24 ||| x).toNat = n * 16777216 + x.toNat := by
  have e : (UInt32.ofInt ((n : Nat) : Int)).toNat = n := by
    rw [show UInt32.ofInt ((n : Nat) : Int) = UInt32.ofNat (((n : Nat) : Int) % 2 ^ 32).toNat from rfl, UInt32.toNat_ofNat']
    omega
  have e2 : (shl_u32 (UInt32.ofInt ((n : Nat) : Int)) 24).toNat = 2 ^ 24 * n := by
    unfold shl_u32
    rw [UInt32.toNat_ofNat', e, Nat.min_eq_left (by decide)]
    omega
  rw [UInt32.toNat_or, e2, ← Nat.two_pow_add_eq_or_of_lt hx]
  omega
theorem bitsW_iff (T : Vector UInt64 4) (b : UInt32) : bitsW T = b ↔ bitsN (uV T) = b.toNat := by
  rw [← UInt32.toNat_inj, bitsW_val]
theorem of_end {b : UInt32} {T : Vector UInt64 4} (hT : uV T = tgtN b.toNat) (hlt : tgtN b.toNat < 2 ^ 256) {s z q : Bool} (hs : s = decide (b.toNat / 8388608 % 2 = 0)) (hz : z = decide (uV T = 0)) (hq : q = decide (bitsN (uV T) = b.toNat)) :
    (if s = true ∧ z = false ∧ q = true then (T, (0 : Int)) else (Vector.replicate 4 0, 5)) = (ofV b, ofE b) := by
  have e : (s = true ∧ z = false ∧ q = true) ↔ okP b.toNat := by
    rw [hs, hz, hq, decide_eq_true_iff, decide_eq_false_iff_not, decide_eq_true_iff, hT]
    exact ⟨fun h => ⟨hlt, h⟩, fun h => h.2⟩
  rw [ofV_eq, ofE_eq]
  by_cases c : okP b.toNat
  · rw [if_pos (e.2 c), if_pos c, if_pos c, ← hT, uW_uV]
  · rw [if_neg (fun h => c (e.1 h)), if_neg c, if_neg c]
theorem of_bad {b : UInt32} (h : ¬ okP b.toNat) : (Vector.replicate 4 0, (5 : Int)) = (ofV b, ofE b) := by
  rw [ofV_eq, ofE_eq, if_neg h, if_neg h]
noncomputable def meetsS (h : Vector UInt8 32) (b : UInt32) : Bool := lock (decide (ofE b = 0) && !(subB (ofV b) (hashU h)))
theorem meetsS_eq (h : Vector UInt8 32) (b : UInt32) : meetsS h b = (decide (ofE b = 0) && !(subB (ofV b) (hashU h))) := lock_eq _
end Go.Proofs.YtbdajagcinfeeaaDoor.M

namespace Go.Proofs.YtbdajagcinfeeaaDoor.M
open Go
/-! the next target -/
end Go.Proofs.YtbdajagcinfeeaaDoor.M
