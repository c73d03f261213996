/- Part of the proofs: what functions of the program do: plain functions, and the walks that show it. No condition. -/
import Derived.KernelRfl
import Derived.Test.YtbdajagcinfeeaaDoorLe
import Derived.Test.YtbdajagcinfeeaaDoorSbigS
import Derived.Test.YtbdajagcinfeeaaDoorSwords
import Derived.Test.YtbdajagcinfeeaaDoorSbigB
set_option linter.unusedVariables false
set_option linter.unusedSimpArgs false
set_option autoImplicit false
namespace Go.Proofs.YtbdajagcinfeeaaDoor.M
open Go
/-! targets and their bits -/
theorem lenN_pos {t : Nat} (h : t ≠ 0) : 1 ≤ lenN t ∧ 2 ^ (lenN t - 1) ≤ t ∧ t < 2 ^ lenN t := by
  have h1 : t < 2 ^ lenN t := lenN_le.1 (Nat.le_refl _)
  have h0 : 1 ≤ lenN t := by
    by_cases c : 1 ≤ lenN t
    · exact c
    · rw [show lenN t = 0 by omega, Nat.pow_zero] at h1
      omega
  refine ⟨h0, ?_, h1⟩
  by_cases c : 2 ^ (lenN t - 1) ≤ t
  · exact c
  · have := lenN_le.2 (show t < 2 ^ (lenN t - 1) by omega)
    omega
theorem lenN_of {t n : Nat} (h1 : 2 ^ n ≤ t) (h2 : t < 2 ^ (n + 1)) : lenN t = n + 1 := by
  refine lenN_uniq fun j => ?_
  constructor
  · intro h
    by_cases c : n + 1 ≤ j
    · exact c
    · have : 2 ^ j ≤ 2 ^ n := Nat.pow_le_pow_right (by decide) (by omega)
      omega
  · intro h
    have : 2 ^ (n + 1) ≤ 2 ^ j := Nat.pow_le_pow_right (by decide) h
    omega
noncomputable def cN (t : Nat) : Nat := lenN t / 8 + 1
noncomputable def cM (t : Nat) : Nat := if cN t ≤ 3 then t * 2 ^ (8 * (3 - cN t)) else t / 2 ^ (8 * (cN t - 3))
noncomputable def bitsN (t : Nat) : Nat := if t = 0 then 0 else cN t * 16777216 + cM t
def tgtN (b : Nat) : Nat := if b / 16777216 ≤ 3 then b % 8388608 / 2 ^ (8 * (3 - b / 16777216)) else b % 8388608 * 2 ^ (8 * (b / 16777216 - 3))
def okP (b : Nat) : Prop := tgtN b < 2 ^ 256 ∧ b / 8388608 % 2 = 0 ∧ tgtN b ≠ 0 ∧ bitsN (tgtN b) = b
noncomputable instance (b : Nat) : Decidable (okP b) := inferInstanceAs (Decidable (_ ∧ _ ∧ _ ∧ _))
noncomputable def flN (t : Nat) : Nat := if cN t ≤ 3 then t else t / 2 ^ (8 * (cN t - 3)) * 2 ^ (8 * (cN t - 3))
theorem cM_bounds {t : Nat} (h : t ≠ 0) : 32768 ≤ cM t ∧ cM t < 8388608 := by
  obtain ⟨h0, h1, h2⟩ := lenN_pos h
  unfold cM
  by_cases c : cN t ≤ 3
  · rw [if_pos c]
    have e1 : 2 ^ (lenN t) * 2 ^ (8 * (3 - cN t)) ≤ 2 ^ 23 := by
      rw [← Nat.pow_add]
      exact Nat.pow_le_pow_right (by decide) (by unfold cN at *; omega)
    have e2 : 2 ^ 15 ≤ 2 ^ (lenN t - 1) * 2 ^ (8 * (3 - cN t)) := by
      rw [← Nat.pow_add]
      exact Nat.pow_le_pow_right (by decide) (by unfold cN at *; omega)
    have e3 := Nat.mul_lt_mul_of_pos_right h2 (Nat.two_pow_pos (8 * (3 - cN t)))
    have e4 := Nat.mul_le_mul_right (2 ^ (8 * (3 - cN t))) h1
    omega
  · rw [if_neg c]
    have pp := Nat.two_pow_pos (8 * (cN t - 3))
    constructor
    · rw [Nat.le_div_iff_mul_le pp, show 32768 = 2 ^ 15 from rfl, ← Nat.pow_add]
      exact Nat.le_trans (Nat.pow_le_pow_right (by decide) (by unfold cN at *; omega)) h1
    · rw [Nat.div_lt_iff_lt_mul pp, show 8388608 = 2 ^ 23 from rfl, ← Nat.pow_add]
      exact Nat.lt_of_lt_of_le h2 (Nat.pow_le_pow_right (by decide) (by unfold cN at *; omega))
theorem bitsN_parts {t : Nat} (h : t ≠ 0) : bitsN t / 16777216 = cN t ∧ bitsN t % 8388608 = cM t ∧ bitsN t / 8388608 % 2 = 0 := by
  have := cM_bounds h
  unfold bitsN
  rw [if_neg h]
  omega
theorem tgt_bits {t : Nat} (h : t ≠ 0) : tgtN (bitsN t) = flN t := by
  obtain ⟨p1, p2, p3⟩ := bitsN_parts h
  unfold tgtN flN
  rw [p1, p2]
  unfold cM
  by_cases c : cN t ≤ 3
  · rw [if_pos c, if_pos c, if_pos c, Nat.mul_div_cancel _ (Nat.two_pow_pos _)]
  · rw [if_neg c, if_neg c, if_neg c]
theorem flN_le (t : Nat) : flN t ≤ t := by
  unfold flN
  split
  · exact Nat.le_refl _
  · exact Nat.div_mul_le_self _ _
theorem flN_low {t n : Nat} (hn : 8 * (cN t - 3) ≤ n) (h : 2 ^ n ≤ t) : 2 ^ n ≤ flN t := by
  unfold flN
  split
  · exact h
  · have e : 2 ^ n = 2 ^ (n - 8 * (cN t - 3)) * 2 ^ (8 * (cN t - 3)) := by rw [← Nat.pow_add]; congr 1; omega
    rw [e]
    refine Nat.mul_le_mul_right _ ?_
    rw [Nat.le_div_iff_mul_le (Nat.two_pow_pos _), ← e]
    exact h
theorem flN_len {t : Nat} (h : t ≠ 0) : lenN (flN t) = lenN t := by
  obtain ⟨h0, h1, h2⟩ := lenN_pos h
  have := lenN_of (t := flN t) (n := lenN t - 1) (flN_low (by unfold cN; omega) h1) (by rw [show lenN t - 1 + 1 = lenN t by omega]; exact Nat.lt_of_le_of_lt (flN_le t) h2)
  omega
theorem flN_ne {t : Nat} (h : t ≠ 0) : flN t ≠ 0 := by
  intro e
  have := flN_len h
  rw [e, lenN_zero] at this
  have := (lenN_pos h).1
  omega
theorem bits_fl {t : Nat} (h : t ≠ 0) : bitsN (flN t) = bitsN t := by
  have hl := flN_len h
  have hc : cN (flN t) = cN t := by unfold cN; rw [hl]
  unfold bitsN
  rw [if_neg (flN_ne h), if_neg h, hc]
  congr 1
  unfold cM
  rw [hc]
  unfold flN
  by_cases c : cN t ≤ 3
  · rw [if_pos c, if_pos c, if_pos c]
  · rw [if_neg c, if_neg c, if_neg c, Nat.mul_div_cancel _ (Nat.two_pow_pos _)]
theorem bitsN_lt {t : Nat} (h : t < 2 ^ 256) : bitsN t < 4294967296 := by
  by_cases c : t = 0
  · unfold bitsN; rw [if_pos c]; decide
  · have hl : lenN t ≤ 256 := lenN_le.2 h
    have := cM_bounds c
    unfold bitsN cN
    rw [if_neg c]
    omega
theorem ok_bits {t : Nat} (h : t ≠ 0) (h2 : t < 2 ^ 256) : okP (bitsN t) := by
  unfold okP
  rw [tgt_bits h]
  exact ⟨Nat.lt_of_le_of_lt (flN_le t) h2, (bitsN_parts h).2.2, flN_ne h, bits_fl h⟩
theorem flN_mono {s t : Nat} (h : s ≤ t) : flN s ≤ flN t := by
  by_cases hs : s = 0
  · subst hs
    exact Nat.le_trans (flN_le 0) (Nat.zero_le _)
  have ht : t ≠ 0 := by omega
  have l1 : lenN s ≤ lenN t := lenN_le.2 (Nat.lt_of_le_of_lt h (lenN_pos ht).2.2)
  have c1 : cN s ≤ cN t := by unfold cN; omega
  by_cases c : cN s = cN t
  · unfold flN
    rw [c]
    split
    · exact h
    · exact Nat.mul_le_mul_right _ (Nat.div_le_div_right h)
  · have e1 : s < 2 ^ (8 * (cN s) - 1) := Nat.lt_of_lt_of_le (lenN_pos hs).2.2 (Nat.pow_le_pow_right (by decide) (by unfold cN; omega))
    have e2 : 2 ^ (8 * (cN t - 1) - 1) ≤ t := Nat.le_trans (Nat.pow_le_pow_right (by decide) (by unfold cN; omega)) (lenN_pos ht).2.1
    have e3 := flN_low (t := t) (n := 8 * (cN t - 1) - 1) (by unfold cN at *; omega) e2
    have e4 : 2 ^ (8 * (cN s) - 1) ≤ 2 ^ (8 * (cN t - 1) - 1) := Nat.pow_le_pow_right (by decide) (by omega)
    have := flN_le s
    omega
/-! the answers -/
noncomputable def bitsW (t : Vector UInt64 4) : UInt32 := lock (UInt32.ofNat (bitsN (uV t)))
theorem bitsW_eq (t : Vector UInt64 4) : bitsW t = UInt32.ofNat (bitsN (uV t)) := lock_eq _
theorem bitsW_val (t : Vector UInt64 4) : (bitsW t).toNat = bitsN (uV t) := by
  rw [bitsW_eq, UInt32.toNat_ofNat']
  exact Nat.mod_eq_of_lt (bitsN_lt (by rw [two256]; exact uV_lt t))
noncomputable def ofV (b : UInt32) : Vector UInt64 4 := lock (if okP b.toNat then uW (tgtN b.toNat) else Vector.replicate 4 0)
theorem ofV_eq (b : UInt32) : ofV b = (if okP b.toNat then uW (tgtN b.toNat) else Vector.replicate 4 0) := lock_eq _
noncomputable def ofE (b : UInt32) : Int := lock (if okP b.toNat then 0 else 5)
theorem ofE_eq (b : UInt32) : ofE b = (if okP b.toNat then 0 else 5) := lock_eq _
theorem ofV_val {b : UInt32} (h : okP b.toNat) : uV (ofV b) = tgtN b.toNat := by
  rw [ofV_eq, if_pos h, uV_uW, ← two256]
  exact Nat.mod_eq_of_lt h.1
noncomputable def byN (t : Nat) : Nat := (lenN t + 7) / 8
noncomputable def preX (t : Nat) : Nat := if byN t ≤ 3 then t * 2 ^ (8 * (3 - byN t)) else t / 2 ^ (8 * (byN t - 3))
theorem bits_pre {t : Nat} (h : t ≠ 0) : preX t < 16777216 ∧ bitsN t = if 8388607 < preX t then (byN t + 1) * 16777216 + preX t / 256 else byN t * 16777216 + preX t := by
  obtain ⟨h0, h1, h2⟩ := lenN_pos h
  by_cases c8 : lenN t % 8 = 0
  · have hn : cN t = byN t + 1 := by unfold cN byN; omega
    have hx : 8388607 < preX t ∧ preX t < 16777216 := by
      unfold preX
      by_cases c : byN t ≤ 3
      · rw [if_pos c]
        have e1 : 2 ^ 23 ≤ 2 ^ (lenN t - 1) * 2 ^ (8 * (3 - byN t)) := by
          rw [← Nat.pow_add]
          exact Nat.pow_le_pow_right (by decide) (by unfold byN at *; omega)
        have e2 := Nat.mul_le_mul_right (2 ^ (8 * (3 - byN t))) h1
        have e3 : 2 ^ (lenN t) * 2 ^ (8 * (3 - byN t)) ≤ 2 ^ 24 := by
          rw [← Nat.pow_add]
          exact Nat.pow_le_pow_right (by decide) (by unfold byN at *; omega)
        have e4 := Nat.mul_lt_mul_of_pos_right h2 (Nat.two_pow_pos (8 * (3 - byN t)))
        omega
      · rw [if_neg c]
        have pp := Nat.two_pow_pos (8 * (byN t - 3))
        constructor
        · refine Nat.lt_of_lt_of_le (show 8388607 < 2 ^ 23 by decide) ?_
          rw [Nat.le_div_iff_mul_le pp, ← Nat.pow_add]
          exact Nat.le_trans (Nat.pow_le_pow_right (by decide) (by unfold byN at *; omega)) h1
        · rw [Nat.div_lt_iff_lt_mul pp, show 16777216 = 2 ^ 24 from rfl, ← Nat.pow_add]
          exact Nat.lt_of_lt_of_le h2 (Nat.pow_le_pow_right (by decide) (by unfold byN at *; omega))
    refine ⟨hx.2, ?_⟩
    rw [if_pos hx.1]
    unfold bitsN
    rw [if_neg h, hn]
    congr 1
    unfold cM preX
    rw [hn]
    by_cases c : byN t ≤ 3
    · rw [if_pos c]
      by_cases c3 : byN t + 1 ≤ 3
      · rw [if_pos c3, show 8 * (3 - byN t) = 8 * (3 - (byN t + 1)) + 8 by omega, Nat.pow_add, ← Nat.mul_assoc, show 256 = 2 ^ 8 from rfl, Nat.mul_div_cancel _ (by decide)]
      · rw [if_neg c3, show 8 * (byN t + 1 - 3) = 8 by omega, show 8 * (3 - byN t) = 0 by omega, Nat.pow_zero, Nat.mul_one]
    · rw [if_neg c, if_neg (by omega), show 8 * (byN t + 1 - 3) = 8 * (byN t - 3) + 8 by omega, Nat.pow_add, ← Nat.div_div_eq_div_mul]
  · have hn : cN t = byN t := by unfold cN byN; omega
    have hx : preX t = cM t := by unfold preX cM; rw [hn]
    have := cM_bounds h
    rw [hx]
    refine ⟨by omega, ?_⟩
    rw [if_neg (by omega)]
    unfold bitsN
    rw [if_neg h, hn]
theorem byN_zero {t : Nat} : byN t = 0 ↔ t = 0 := by
  unfold byN
  constructor
  · intro h
    by_cases c : t = 0
    · exact c
    · have := (lenN_pos c).1
      omega
  · intro h
    rw [h, lenN_zero]
theorem byN_le {t : Nat} (h : t < 2 ^ 256) : byN t ≤ 32 := by
  have := lenN_le.2 h
  unfold byN
  omega
theorem sh24 (n : Nat) (x : UInt32) (hn : n < 256) (hx : x.toNat < 16777216) : (shl_u32 (UInt32.ofInt ((n : Nat) : Int)) 24 ||| x).toNat = n * 16777216 + x.toNat := by
  have e : (UInt32.ofInt ((n : Nat) : Int)).toNat = n := by
    rw [show UInt32.ofInt ((n : Nat) : Int) = UInt32.ofNat (((n : Nat) : Int) % 2 ^ 32).toNat from rfl, UInt32.toNat_ofNat']
    omega
  have e2 : (shl_u32 (UInt32.ofInt ((n : Nat) : Int)) 24).toNat = 2 ^ 24 * n := by
    unfold shl_u32
    rw [UInt32.toNat_ofNat', e, Nat.min_eq_left (by decide)]
    omega
  rw [UInt32.toNat_or, e2, ← Nat.two_pow_add_eq_or_of_lt hx]
  omega
theorem bitsW_iff (T : Vector UInt64 4) (b : UInt32) : bitsW T = b ↔ bitsN (uV T) = b.toNat := by
  rw [← UInt32.toNat_inj, bitsW_val]
theorem of_end {b : UInt32} {T : Vector UInt64 4} (hT : uV T = tgtN b.toNat) (hlt : tgtN b.toNat < 2 ^ 256) {s z q : Bool} (hs : s = decide (b.toNat / 8388608 % 2 = 0)) (hz : z = decide (uV T = 0)) (hq : q = decide (bitsN (uV T) = b.toNat)) :
    (if s = true ∧ z = false ∧ q = true then (T, (0 : Int)) else (Vector.replicate 4 0, 5)) = (ofV b, ofE b) := by
  have e : (s = true ∧ z = false ∧ q = true) ↔ okP b.toNat := by
    rw [hs, hz, hq, decide_eq_true_iff, decide_eq_false_iff_not, decide_eq_true_iff, hT]
    exact ⟨fun h => ⟨hlt, h⟩, fun h => h.2⟩
  rw [ofV_eq, ofE_eq]
  by_cases c : okP b.toNat
  · rw [if_pos (e.2 c), if_pos c, if_pos c, ← hT, uW_uV]
  · rw [if_neg (fun h => c (e.1 h)), if_neg c, if_neg c]
theorem of_bad {b : UInt32} (h : ¬ okP b.toNat) : (Vector.replicate 4 0, (5 : Int)) = (ofV b, ofE b) := by
  rw [ofV_eq, ofE_eq, if_neg h, if_neg h]
noncomputable def workV (b : UInt32) : Vector UInt64 4 := lock (if okP b.toNat then uW (115792089237316195423570985008687907853269984665640564039457584007913129639936 / (tgtN b.toNat + 1)) else Vector.replicate 4 0)
theorem workV_eq (b : UInt32) : workV b = (if okP b.toNat then uW (115792089237316195423570985008687907853269984665640564039457584007913129639936 / (tgtN b.toNat + 1)) else Vector.replicate 4 0) := lock_eq _
noncomputable def meetsS (h : Vector UInt8 32) (b : UInt32) : Bool := lock (decide (ofE b = 0) && !(subB (ofV b) (hashU h)))
theorem meetsS_eq (h : Vector UInt8 32) (b : UInt32) : meetsS h b = (decide (ofE b = 0) && !(subB (ofV b) (hashU h))) := lock_eq _
noncomputable def prodV (a : Vector UInt64 4) (n m : UInt64) : Vector UInt64 4 := lock (uW (uV a * n.toNat / m.toNat))
theorem prodV_eq (a : Vector UInt64 4) (n m : UInt64) : prodV a n m = uW (uV a * n.toNat / m.toNat) := lock_eq _
noncomputable def prodB (a : Vector UInt64 4) (n m : UInt64) : Bool := lock (!decide (uV a * n.toNat / m.toNat < 115792089237316195423570985008687907853269984665640564039457584007913129639936))
theorem prodB_eq (a : Vector UInt64 4) (n m : UInt64) : prodB a n m = !decide (uV a * n.toNat / m.toNat < 115792089237316195423570985008687907853269984665640564039457584007913129639936) := lock_eq _
noncomputable def subsS (h : UInt32) : UInt64 := lock (if h.toNat = 0 then 0 else if h.toNat / 16 < 64 then UInt64.ofNat (5000000000 / 2 ^ (h.toNat / 16)) else 0)
theorem subsS_eq (h : UInt32) : subsS h = (if h.toNat = 0 then 0 else if h.toNat / 16 < 64 then UInt64.ofNat (5000000000 / 2 ^ (h.toNat / 16)) else 0) := lock_eq _
theorem ofE_iff (b : UInt32) : ofE b = 0 ↔ okP b.toNat := by
  rw [ofE_eq]
  by_cases c : okP b.toNat
  · rw [if_pos c]; exact ⟨fun _ => c, fun _ => rfl⟩
  · rw [if_neg c]; exact ⟨fun e => absurd e (by decide), fun e => absurd e c⟩
theorem vec_iff (a b : Vector UInt64 4) : (Vector.toList a = Vector.toList b) ↔ uV a = uV b := by
  constructor
  · intro q
    rw [Vector.toList_inj.1 q]
  · intro q
    rw [uV_inj q]
theorem uV_uW1 : uV (uW 1) = 1 := by rw [uV_uW]
theorem uV_uW0 : uV (uW 0) = 0 := by rw [uV_uW]
theorem work_one {d M : Nat} (hd : 0 < d) (hM : d ≤ M) : M / d = (M - d) / d + 1 := by
  have : M = (M - d) + d := by omega
  conv => lhs; rw [this]
  rw [Nat.add_div_right _ hd]
theorem work_two {d M : Nat} (hd : 0 < d) (hM : 0 < M) : M / d = if (M - 1) % d = d - 1 then (M - 1) / d + 1 else (M - 1) / d := by
  have h := Nat.div_add_mod (M - 1) d
  have hl := Nat.mod_lt (M - 1) hd
  by_cases c : (M - 1) % d = d - 1
  · rw [if_pos c]
    have e : M = d * ((M - 1) / d + 1) := by rw [Nat.mul_add]; omega
    conv => lhs; rw [e]
    rw [Nat.mul_div_cancel_left _ hd]
  · rw [if_neg c]
    refine Nat.div_eq_of_lt_le ?_ ?_
    · rw [Nat.mul_comm]; omega
    · rw [Nat.mul_comm, Nat.mul_add]; omega
end Go.Proofs.YtbdajagcinfeeaaDoor.M

namespace Go.Proofs.YtbdajagcinfeeaaDoor.M
open Go
/-! the next target -/
def limT : Nat := 57896037716911750921221705069588091649609539881711309849342236841432341020672
theorem lim_tgt : tgtN 545259519 = limT := by decide
theorem lim_len : lenN limT = 255 := lenN_of (n := 254) (by decide) (by decide)
theorem lim_cN : cN limT = 32 := by unfold cN; rw [lim_len]
theorem lim_cM : cM limT = 8388607 := by
  unfold cM
  rw [lim_cN, if_neg (by decide)]
  decide
theorem lim_bits : bitsN limT = 545259519 := by
  unfold bitsN
  rw [lim_cM, lim_cN, if_neg (by decide)]
theorem lim_ok : okP 545259519 := by
  unfold okP
  rw [lim_tgt, lim_bits]
  exact ⟨by decide, by decide, by decide, rfl⟩
theorem lim_val : uV (ofV 545259519) = limT := by
  rw [ofV_val (b := 545259519) lim_ok]
  exact lim_tgt
def nextT (T s : Nat) : Nat := if limT < T * s / 480 then limT else if T * s / 480 = 0 then 1 else T * s / 480
def clampN (s : Nat) : Nat := if s < 120 then 120 else if 1920 < s then 1920 else s
noncomputable def nextW (b s : UInt32) : UInt32 := lock (if okP b.toNat then UInt32.ofNat (bitsN (nextT (tgtN b.toNat) (clampN s.toNat))) else 0)
theorem nextW_eq (b s : UInt32) : nextW b s = (if okP b.toNat then UInt32.ofNat (bitsN (nextT (tgtN b.toNat) (clampN s.toNat))) else 0) := lock_eq _
theorem nextT_pos (T s : Nat) : nextT T s ≠ 0 := by
  unfold nextT
  split
  · decide
  · split
    · decide
    · assumption
theorem nextT_le (T s : Nat) : nextT T s ≤ limT := by
  unfold nextT
  split
  · exact Nat.le_refl _
  · split
    · decide
    · omega
theorem lim_lt : limT < 2 ^ 256 := by decide
theorem nextT_lt (T s : Nat) : nextT T s < 2 ^ 256 := Nat.lt_of_le_of_lt (nextT_le T s) lim_lt
theorem nextT_mono (T : Nat) {s t : Nat} (h : s ≤ t) : nextT T s ≤ nextT T t := by
  have h1 : T * s / 480 ≤ T * t / 480 := Nat.div_le_div_right (Nat.mul_le_mul_left _ h)
  have h2 := nextT_le T s
  have h3 : 1 ≤ limT := by decide
  unfold nextT at *
  split <;> split <;> (try split) <;> (try split) <;> omega
theorem clamp_mono {s t : Nat} (h : s ≤ t) : clampN s ≤ clampN t := by
  unfold clampN
  split <;> split <;> (try split) <;> (try split) <;> omega
theorem clamp_le (s : Nat) : 120 ≤ clampN s ∧ clampN s ≤ 1920 := by
  unfold clampN
  split
  · omega
  · split <;> omega
theorem nextW_val {b s : UInt32} (h : okP b.toNat) : (nextW b s).toNat = bitsN (nextT (tgtN b.toNat) (clampN s.toNat)) := by
  rw [nextW_eq, if_pos h, UInt32.toNat_ofNat']
  exact Nat.mod_eq_of_lt (bitsN_lt (nextT_lt _ _))
/-- of the vector's number -/
theorem bits_end {b s : UInt32} {V : Vector UInt64 4} (h : okP b.toNat) (hV : uV V = nextT (tgtN b.toNat) (clampN s.toNat)) : (bitsW V, (0 : Int)) = (nextW b s, ofE b) := by
  rw [bitsW_eq, hV, nextW_eq, if_pos h, (ofE_iff b).2 h]
end Go.Proofs.YtbdajagcinfeeaaDoor.M
