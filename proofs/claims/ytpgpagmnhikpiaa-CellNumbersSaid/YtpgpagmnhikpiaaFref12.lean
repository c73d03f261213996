/- Part of the proofs: what functions of the program do: plain functions, and the walks that show it. No condition. -/
import Derived.KernelRfl
import Derived.Test.YtpgpagmnhikpiaaProg
import Derived.Test.YtpgpagmnhikpiaaLd
import Derived.Test.YtpgpagmnhikpiaaSwords
import Derived.Test.YtpgpagmnhikpiaaScellS
set_option linter.unusedVariables false
set_option linter.unusedSimpArgs false
set_option autoImplicit false
namespace Go.Proofs.Ytpgpagmnhikpiaa.M
open Go
noncomputable section
/-- the loop 0 of moneyer/moneyerref12.worth -/
def ref12_worth_h0 : Nat → (List UInt8) → UInt64 → Int → Option (Int)
  | 0, _, _, _ => none
  | k + 1, b, n, i => bif decide ((0 : Int) ≤ i) then (if ((0 : Int) ≤ i) ∧ (i < (((List.length b) : Nat) : Int)) then
        ref12_worth_h0 k b (((256 : UInt64) * n) + (UInt8.toUInt64 (List.getD b (Int.toNat i) (0 : UInt8)))) (w64 (i - (1 : Int)))
      else none)
      else (bif eqb (decide ((0 : Int) < (((List.length b) : Nat) : Int))) true then (bif eqb (bif true then (decide ((((List.length b) : Nat) : Int) < (8 : Int))) else false) true then (if ((0 : Int) ≤ (w64 ((((List.length b) : Nat) : Int) - (1 : Int)))) ∧ ((w64 ((((List.length b) : Nat) : Int) - (1 : Int))) < (((List.length b) : Nat) : Int)) then
            bif bif true then (decide ((128 : UInt8) ≤ (List.getD b (Int.toNat (w64 ((((List.length b) : Nat) : Int) - (1 : Int)))) (0 : UInt8)))) else false then (some (w64 (((UInt64.toNat (n - (shl_u64 (1 : UInt64) (UInt64.toNat ((8 : UInt64) * (UInt64.ofInt (((List.length b) : Nat) : Int))))))) : Nat) : Int)))
              else (some (w64 (((UInt64.toNat n) : Nat) : Int)))
          else none)
          else (some (w64 (((UInt64.toNat n) : Nat) : Int))))
        else (some (w64 (((UInt64.toNat n) : Nat) : Int))))
theorem ref12_worth_h0_q (k : Nat) (b : List UInt8) (n : UInt64) (i : Int) : ref12_worth_h0 (k + 1) b n i =
  (bif decide ((0 : Int) ≤ i) then (if ((0 : Int) ≤ i) ∧ (i < (((List.length b) : Nat) : Int)) then
        ref12_worth_h0 k b (((256 : UInt64) * n) + (UInt8.toUInt64 (List.getD b (Int.toNat i) (0 : UInt8)))) (w64 (i - (1 : Int)))
      else none)
      else (bif eqb (decide ((0 : Int) < (((List.length b) : Nat) : Int))) true then (bif eqb (bif true then (decide ((((List.length b) : Nat) : Int) < (8 : Int))) else false) true then (if ((0 : Int) ≤ (w64 ((((List.length b) : Nat) : Int) - (1 : Int)))) ∧ ((w64 ((((List.length b) : Nat) : Int) - (1 : Int))) < (((List.length b) : Nat) : Int)) then
            bif bif true then (decide ((128 : UInt8) ≤ (List.getD b (Int.toNat (w64 ((((List.length b) : Nat) : Int) - (1 : Int)))) (0 : UInt8)))) else false then (some (w64 (((UInt64.toNat (n - (shl_u64 (1 : UInt64) (UInt64.toNat ((8 : UInt64) * (UInt64.ofInt (((List.length b) : Nat) : Int))))))) : Nat) : Int)))
              else (some (w64 (((UInt64.toNat n) : Nat) : Int)))
          else none)
          else (some (w64 (((UInt64.toNat n) : Nat) : Int))))
        else (some (w64 (((UInt64.toNat n) : Nat) : Int))))) := by kernel_rfl
/-- moneyer/moneyerref12.worth -/
def ref12_worth (k : Nat) (b : List UInt8) : Option (Int) :=
  ref12_worth_h0 k b (0 : UInt64) (w64 ((((List.length b) : Nat) : Int) - (1 : Int)))
theorem ref12_worth_q (k : Nat) (b : List UInt8) : ref12_worth k b = (ref12_worth_h0 k b (0 : UInt64) (w64 ((((List.length b) : Nat) : Int) - (1 : Int)))) := by kernel_rfl
theorem ref12_worth_end (b : List UInt8) (hb : b.length ≤ 8) : Ev (fun k => ref12_worth_h0 k b (UInt64.ofNat (numU b)) (-1)) (numV b) := by
  have hlt := numU_lt b
  have hp : 256 ^ b.length ≤ 256 ^ 8 := Nat.pow_le_pow_right (by decide) hb
  have hu : (UInt64.ofNat (numU b)).toNat = numU b := by rw [UInt64.toNat_ofNat']; omega
  refine Ev.done fun f => ?_
  rw [ref12_worth_h0_q, bif_neg (by omega)]
  simp only [eqb_t, cond_true, hu]
  cases b with
  | nil => simp [numU, numV]; rfl
  | cons x r =>
    rw [List.length_cons] at hb hlt hp
    have e1 : w64 ((((x :: r).length : Nat) : Int) - 1) = ((r.length : Nat) : Int) := by rw [List.length_cons, w64_id (by omega) (by omega)]; omega
    have hlast : decide ((128 : UInt8) ≤ List.getD (x :: r) r.length 0) = decide (128 * 256 ^ r.length ≤ numU (x :: r)) := by
      have gen : ∀ (r : List UInt8) (x : UInt8), (128 ≤ (List.getD (x :: r) r.length 0).toNat) ↔ 128 * 256 ^ r.length ≤ numU (x :: r) := by
        intro r
        induction r with
        | nil => intro x; simp [numU]
        | cons y r ih =>
          intro x
          have hx := x.toNat_lt
          have e : List.getD (x :: y :: r) (y :: r).length 0 = List.getD (y :: r) r.length 0 := rfl
          have eU : numU (x :: y :: r) = x.toNat + 256 * numU (y :: r) := rfl
          have eP : 256 ^ (y :: r).length = 256 ^ r.length * 256 := by rw [List.length_cons, Nat.pow_succ]
          rw [e, ih y, eU, eP]
          omega
      have := gen r x
      rw [Bool.eq_iff_iff, decide_eq_true_eq, decide_eq_true_eq, UInt8.le_iff_toNat_le]
      exact this
    rw [e1, decide_eq_true (by rw [List.length_cons]; omega), cond_true, Int.toNat_natCast, hlast]
    have hV := numV_U x r
    by_cases h8 : r.length + 1 < 8
    · rw [decide_eq_true (by simp; omega), cond_true, if_pos (by simp; omega)]
      have hq : 256 ^ (r.length + 1) ≤ 256 ^ 7 := Nat.pow_le_pow_right (by decide) (by omega)
      have e3 : ((8 : UInt64) * UInt64.ofInt (((x :: r).length : Nat) : Int)).toNat = 8 * (r.length + 1) := by
        rw [UInt64.toNat_mul, u64_ofInt (by simp; omega), show (8 : UInt64).toNat = 8 from rfl, List.length_cons]
        omega
      have e4 : (shl_u64 1 (8 * (r.length + 1))).toNat = 256 ^ (r.length + 1) := by
        unfold shl_u64
        rw [UInt64.toNat_ofNat', show min (8 * (r.length + 1)) 64 = 8 * (r.length + 1) by omega, show (1 : UInt64).toNat = 1 from rfl, Nat.one_mul, Nat.pow_mul]
        rw [show 2 ^ 8 = 256 from rfl]
        omega
      by_cases h : 128 * 256 ^ r.length ≤ numU (x :: r)
      · rw [decide_eq_true h, cond_true, e3]
        rw [if_pos h] at hV
        rw [hV]
        refine congrArg some ?_
        rw [UInt64.toNat_sub, e4, hu]
        have e5 : 256 ^ (r.length + 1) = 256 ^ r.length * 256 := Nat.pow_succ _ _
        rw [e5] at hlt hq ⊢
        generalize numU (x :: r) = u at *
        generalize 256 ^ r.length = p at *
        rw [w64_eq]
        split <;> omega
      · rw [decide_eq_false h, cond_false]
        rw [if_neg h] at hV
        rw [hV]
        refine congrArg some ?_
        rw [w64_id (by omega) (by omega)]
        omega
    · have : r.length = 7 := by omega
      rw [decide_eq_false (by simp; omega), cond_false]
      rw [this] at hV hlt
      rw [hV]
      refine congrArg some ?_
      rw [w64_eq]
      split <;> split <;> omega
theorem ref12_worth_spec (b : List UInt8) (hb : b.length ≤ 8) : ∃ k, ref12_worth k b = some (numV b) := by
  show Ev (fun k => ref12_worth k b) _
  refine Ev.same (fun k => ref12_worth_q k b) ?_
  have gen : ∀ i, i ≤ b.length → Ev (fun k => ref12_worth_h0 k b (UInt64.ofNat (numU (b.drop i))) (((i : Nat) : Int) - 1)) (numV b) := by
    intro i
    induction i with
    | zero => intro _; simpa using ref12_worth_end b hb
    | succ i ih =>
      intro hi
      refine Ev.step (fun k => ?_) (ih (by omega))
      have e : b.drop i = List.getD b i 0 :: b.drop (i + 1) := by
        rw [List.drop_eq_getElem_cons (by omega)]
        simp [List.getD, show i < b.length by omega]
      have hlt := numU_lt (b.drop i)
      have hp : 256 ^ (b.drop i).length ≤ 256 ^ 8 := Nat.pow_le_pow_right (by decide) (by simp; omega)
      rw [ref12_worth_h0_q, bif_pos (by omega), if_pos (by omega), show (((i + 1 : Nat) : Int) - 1) = ((i : Nat) : Int) by omega, Int.toNat_natCast, w64_id (by omega) (by omega)]
      refine congrArg (fun y => ref12_worth_h0 k b y (((i : Nat) : Int) - 1)) ?_
      apply UInt64.toNat_inj.1
      rw [e, numU] at hlt ⊢
      rw [e] at hp
      have hc := (List.getD b i 0).toNat_lt
      rw [UInt64.toNat_add, UInt64.toNat_mul, UInt64.toNat_ofNat', UInt64.toNat_ofNat', show (256 : UInt64).toNat = 256 from rfl, UInt8.toNat_toUInt64]
      generalize numU (b.drop (i + 1)) = u at *
      generalize (List.getD b i 0).toNat = c at *
      omega
  have h := gen b.length (Nat.le_refl _)
  rw [List.drop_length] at h
  refine Ev.same (fun k => ?_) h
  rw [w64_id (by omega) (by omega)]
  rfl

end
end Go.Proofs.Ytpgpagmnhikpiaa.M

namespace Go.Proofs.Ytpgpagmnhikpiaa.M
open Go
noncomputable section
/-- the loop 0 of moneyer/moneyerref12.Bytes -/
def ref12_Bytes_h0 : Nat → Int → (List UInt8) → Option (List UInt8)
  | 0, _, _ => none
  | k + 1, n, b => if (List.length b) ≤ (8 : Nat) then
      bif !(decide ((numV b) = n)) then (if (((List.length (b ++ ([(UInt64.toUInt8 (shr_u64 (UInt64.ofInt n) (UInt64.toNat ((8 : UInt64) * (UInt64.ofInt (((List.length b) : Nat) : Int))))))] : List UInt8))) * (1 : Nat)) ≤ (70368744177664 : Nat)) ∧ ((List.length (b ++ ([(UInt64.toUInt8 (shr_u64 (UInt64.ofInt n) (UInt64.toNat ((8 : UInt64) * (UInt64.ofInt (((List.length b) : Nat) : Int))))))] : List UInt8))) ≤ (70368744177664 : Nat)) then
          ref12_Bytes_h0 k n (b ++ ([(UInt64.toUInt8 (shr_u64 (UInt64.ofInt n) (UInt64.toNat ((8 : UInt64) * (UInt64.ofInt (((List.length b) : Nat) : Int))))))] : List UInt8))
        else none)
        else (some b)
    else none
theorem ref12_Bytes_h0_q (k : Nat) (n : Int) (b : List UInt8) : ref12_Bytes_h0 (k + 1) n b =
  (if (List.length b) ≤ (8 : Nat) then
      bif !(decide ((numV b) = n)) then (if (((List.length (b ++ ([(UInt64.toUInt8 (shr_u64 (UInt64.ofInt n) (UInt64.toNat ((8 : UInt64) * (UInt64.ofInt (((List.length b) : Nat) : Int))))))] : List UInt8))) * (1 : Nat)) ≤ (70368744177664 : Nat)) ∧ ((List.length (b ++ ([(UInt64.toUInt8 (shr_u64 (UInt64.ofInt n) (UInt64.toNat ((8 : UInt64) * (UInt64.ofInt (((List.length b) : Nat) : Int))))))] : List UInt8))) ≤ (70368744177664 : Nat)) then
          ref12_Bytes_h0 k n (b ++ ([(UInt64.toUInt8 (shr_u64 (UInt64.ofInt n) (UInt64.toNat ((8 : UInt64) * (UInt64.ofInt (((List.length b) : Nat) : Int))))))] : List UInt8))
        else none)
        else (some b)
    else none) := by kernel_rfl
/-- moneyer/moneyerref12.Bytes -/
def ref12_Bytes (k : Nat) (n : Int) : Option (List UInt8) :=
  ref12_Bytes_h0 k n ([] : List UInt8)
theorem ref12_Bytes_q (k : Nat) (n : Int) : ref12_Bytes k n = (ref12_Bytes_h0 k n ([] : List UInt8)) := by kernel_rfl
theorem u8_shr (n : Int) (hn : I64 n) (k : Nat) (hk : k ≤ 7) : (shr_u64 (UInt64.ofInt n) (8 * k)).toUInt8 = byteI (n / 256 ^ k) := by
  apply UInt8.toNat_inj.1
  have h := byteI_nat (n / 256 ^ k)
  have e : (UInt64.ofInt n).toNat = (n % 18446744073709551616).toNat := by
    rw [show UInt64.ofInt n = UInt64.ofNat (n % 2 ^ 64).toNat from rfl, UInt64.toNat_ofNat']
    omega
  unfold shr_u64
  rw [UInt64.toNat_toUInt8, UInt64.toNat_ofNat', e]
  have : k = 0 ∨ k = 1 ∨ k = 2 ∨ k = 3 ∨ k = 4 ∨ k = 5 ∨ k = 6 ∨ k = 7 := by omega
  rcases this with q | q | q | q | q | q | q | q <;> subst q <;> simp at h ⊢ <;> omega
theorem u64_of8 {k : Nat} (h : k ≤ 8) : ((8 : UInt64) * UInt64.ofInt ((k : Nat) : Int)).toNat = 8 * k := by
  rw [UInt64.toNat_mul, u64_ofInt (by omega), show (8 : UInt64).toNat = 8 from rfl]
  omega
theorem ref12_Bytes_loop (n : Int) (hn : I64 n) : ∀ j k, k + j = 7 → numV (preN k n) ≠ n → Ev (fun f => ref12_Bytes_h0 f n (preN k n)) (preN k n ++ numP (8 - k) (n / 256 ^ k)) := by
  have step : ∀ k f, k ≤ 7 → numV (preN k n) ≠ n → ref12_Bytes_h0 (f + 1) n (preN k n) = ref12_Bytes_h0 f n (preN (k + 1) n) := by
    intro k f hk hd
    rw [ref12_Bytes_h0_q, preN_len, if_pos (by omega), decide_eq_false hd, Bool.not_false, cond_true, u64_of8 (by omega), u8_shr n hn k hk, ← preN_snoc, if_pos (by rw [preN_len]; omega)]
  have fin : ∀ k f, k ≤ 8 → numV (preN k n) = n → ref12_Bytes_h0 (f + 1) n (preN k n) = some (preN k n) := by
    intro k f hk hd
    rw [ref12_Bytes_h0_q, preN_len, if_pos (by omega), decide_eq_true hd]
    rfl
  have last : ∀ k, k ≤ 7 → numV (preN k n) ≠ n → (-128 ≤ n / 256 ^ k ∧ n / 256 ^ k < 128) → Ev (fun f => ref12_Bytes_h0 f n (preN k n)) (preN k n ++ numP (8 - k) (n / 256 ^ k)) := by
    intro k hk h0 hd
    have e : preN k n ++ numP (8 - k) (n / 256 ^ k) = preN (k + 1) n := by
      rw [preN_snoc, show 8 - k = (7 - k) + 1 by omega, numP, if_pos hd]
    rw [e]
    refine Ev.step (fun f => step k f hk h0) (Ev.done fun f => fin (k + 1) f (by omega) ((preN_done k n).2 hd))
  intro j
  induction j with
  | zero =>
    intro k hk h0
    obtain rfl : k = 7 := by omega
    refine last 7 (by omega) h0 ?_
    obtain ⟨h1, h2⟩ := hn
    omega
  | succ j ih =>
    intro k hk h0
    by_cases hd : -128 ≤ n / 256 ^ k ∧ n / 256 ^ k < 128
    · exact last k (by omega) h0 hd
    · have hr := ih (k + 1) (by omega) (fun e => hd ((preN_done k n).1 e))
      have e : preN k n ++ numP (8 - k) (n / 256 ^ k) = preN (k + 1) n ++ numP (8 - (k + 1)) (n / 256 ^ (k + 1)) := by
        rw [preN_snoc, show 8 - k = (7 - k) + 1 by omega, numP, if_neg hd, show 8 - (k + 1) = 7 - k by omega, Int.pow_succ, ← Int.ediv_ediv_of_nonneg (by exact Int.pow_nonneg (by decide))]
        simp
      rw [e]
      exact Ev.step (fun f => step k f (by omega) h0) hr
theorem ref12_Bytes_spec (n : Int) (hn : I64 n) : ∃ k, ref12_Bytes k n = some (numB n) := by
  show Ev (fun k => ref12_Bytes k n) _
  refine Ev.same (fun k => ref12_Bytes_q k n) ?_
  by_cases h0 : n = 0
  · subst h0
    refine Ev.done fun f => ?_
    rw [ref12_Bytes_h0_q]
    rfl
  · have := ref12_Bytes_loop n hn 7 0 rfl (fun e => h0 (by simpa [preN, numV] using e.symm))
    simpa [numB, h0, preN] using this

end
end Go.Proofs.Ytpgpagmnhikpiaa.M

namespace Go.Proofs.Ytpgpagmnhikpiaa.M
open Go
noncomputable section
/-- moneyer/moneyerref12.Number -/
def ref12_Number (b : List UInt8) : Option (Int × Int) :=
  bif eqb (decide ((8 : Int) < (((List.length b) : Nat) : Int))) false then (if (List.length b) ≤ (8 : Nat) then
      if I64 (numV b) then
        bif bif false then true else (!(decide ((((List.length (numB (numV b))) : Nat) : Int) = (((List.length b) : Nat) : Int)))) then (some ((0 : Int), (5 : Int)))
          else (some ((numV b), (0 : Int)))
      else none
    else none)
    else (some ((0 : Int), (5 : Int)))
theorem ref12_Number_q (b : List UInt8) : ref12_Number b = (bif eqb (decide ((8 : Int) < (((List.length b) : Nat) : Int))) false then (if (List.length b) ≤ (8 : Nat) then
      if I64 (numV b) then
        bif bif false then true else (!(decide ((((List.length (numB (numV b))) : Nat) : Int) = (((List.length b) : Nat) : Int)))) then (some ((0 : Int), (5 : Int)))
          else (some ((numV b), (0 : Int)))
      else none
    else none)
    else (some ((0 : Int), (5 : Int)))) := by kernel_rfl
theorem ref12_Number_spec (b : List UInt8) : ref12_Number b = some (numOf b) := by
  rw [ref12_Number_q]
  simp only [eqb_f, cond_true, cond_false]
  by_cases hb : b.length ≤ 8
  · rw [decide_eq_false (by omega), Bool.not_false, cond_true, if_pos hb, if_pos (numV_I64 b hb)]
    unfold numOf
    by_cases h : numB (numV b) = b
    · rw [if_pos ⟨hb, h⟩, h, decide_eq_true rfl]; rfl
    · rw [if_neg (fun q => h q.2), decide_eq_false (fun q => h ((numB_len b).1 (by omega)))]; rfl
  · rw [decide_eq_true (by omega), Bool.not_true, cond_false]
    unfold numOf
    rw [if_neg (fun q => hb q.1)]

end
end Go.Proofs.Ytpgpagmnhikpiaa.M

namespace Go.Proofs.Ytpgpagmnhikpiaa.M
open Go
noncomputable section
/-- the loop 0 of moneyer/moneyerref12.True -/
def ref12_True_h0 : Nat → (List UInt8) → Int → Option (Bool)
  | 0, _, _ => none
  | k + 1, b, i => bif decide (i < (((List.length b) : Nat) : Int)) then (if ((0 : Int) ≤ i) ∧ (i < (((List.length b) : Nat) : Int)) then
        bif !(decide ((List.getD b (Int.toNat i) (0 : UInt8)) = (0 : UInt8))) then (some true)
          else (ref12_True_h0 k b (w64 (i + (1 : Int))))
      else none)
      else (some false)
theorem ref12_True_h0_q (k : Nat) (b : List UInt8) (i : Int) : ref12_True_h0 (k + 1) b i =
  (bif decide (i < (((List.length b) : Nat) : Int)) then (if ((0 : Int) ≤ i) ∧ (i < (((List.length b) : Nat) : Int)) then
        bif !(decide ((List.getD b (Int.toNat i) (0 : UInt8)) = (0 : UInt8))) then (some true)
          else (ref12_True_h0 k b (w64 (i + (1 : Int))))
      else none)
      else (some false)) := by kernel_rfl
/-- moneyer/moneyerref12.True -/
def ref12_True (k : Nat) (b : List UInt8) : Option (Bool) :=
  ref12_True_h0 k b (0 : Int)
theorem ref12_True_q (k : Nat) (b : List UInt8) : ref12_True k b = (ref12_True_h0 k b (0 : Int)) := by kernel_rfl
theorem ref12_True_spec (b : List UInt8) (hp : b.length ≤ 1152921504606846976) : ∃ k, ref12_True k b = some (cellTrue b) := by
  show Ev (fun k => ref12_True k b) _
  refine Ev.same (fun k => ref12_True_q k b) ?_
  have gen : ∀ j i, i + j = b.length → Ev (fun f => ref12_True_h0 f b ((i : Nat) : Int)) (cellTrue (b.drop i)) := by
    intro j
    induction j with
    | zero =>
      intro i hi
      refine Ev.done fun f => ?_
      rw [ref12_True_h0_q, bif_neg (by omega), List.drop_eq_nil_of_le (by omega)]
      rfl
    | succ j ih =>
      intro i hi
      have e : b.drop i = List.getD b i 0 :: b.drop (i + 1) := by
        rw [List.drop_eq_getElem_cons (by omega)]
        simp [List.getD, show i < b.length by omega]
      by_cases h : List.getD b i 0 = 0
      · have e2 : cellTrue (b.drop i) = cellTrue (b.drop (i + 1)) := by rw [e, cellTrue, List.any_cons, decide_eq_false (fun q => q h)]; rfl
        rw [e2]
        refine Ev.step (fun f => ?_) (ih (i + 1) (by omega))
        rw [ref12_True_h0_q, bif_pos (by omega), if_pos (by omega), Int.toNat_natCast, decide_eq_true h, w64_id (by omega) (by omega)]
        rfl
      · have e2 : cellTrue (b.drop i) = true := by rw [e, cellTrue, List.any_cons, decide_eq_true h]; rfl
        rw [e2]
        refine Ev.done fun f => ?_
        rw [ref12_True_h0_q, bif_pos (by omega), if_pos (by omega), Int.toNat_natCast, decide_eq_false h]
        rfl
  have := gen b.length 0 (by omega)
  simpa using this

end
end Go.Proofs.Ytpgpagmnhikpiaa.M

namespace Go.Proofs.Ytpgpagmnhikpiaa.M
open Go
noncomputable section
/-- moneyer/moneyerref12.Bool -/
def ref12_Bool (is_0 : Bool) : List UInt8 :=
  bif is_0 then (([(1 : UInt8)] : List UInt8))
    else (([] : List UInt8))
theorem ref12_Bool_q (is_0 : Bool) : ref12_Bool is_0 = (bif is_0 then (([(1 : UInt8)] : List UInt8))
    else (([] : List UInt8))) := by kernel_rfl

end
end Go.Proofs.Ytpgpagmnhikpiaa.M

namespace Go.Proofs.Ytpgpagmnhikpiaa.M
open Go
noncomputable section
set_option maxRecDepth 100000
noncomputable def ref12_worth_T : Tbl := []
noncomputable def ref12_worth_C : CfgW := mkC Try.prog noG ref12_worth_T 46 0 false
def ref12_worth_lv : Nat → List Nat := fun i => bif Nat.beq i 0 then [0, 3, 4] else []
noncomputable abbrev ref12_worth_b : Code := Try.f29.body.getD .skip
noncomputable abbrev ref12_worth_r : List ResultVar := Try.f29.results.toList
def ref12_worth_hs : List Nat := []

def ref12_worth_enc (r : Int) : CallOut := ⟨.pv (.sc .i r), [], true, []⟩
def ref12_worth_s0 (b : List UInt8) (n : UInt64) (i : Int) : St := ⟨[(0, .pv (.sl .u8 b)), (3, .pv (.sc .u64 n)), (4, .pv (.sc .i i))], []⟩
theorem ref12_worth_g0 (b : List UInt8) (n : UInt64) (i : Int) (Q : CallOut → Prop) : headRound ref12_worth_C ref12_worth_lv [true, true, false, true, false] ref12_worth_b (ref12_worth_s0 b n i) (fnK ref12_worth_C ref12_worth_r ref12_worth_hs Q) =
    (condP (decide ((0 : Int) ≤ i)) ((((0 : Int) ≤ i) ∧ (i < (((List.length b) : Nat) : Int))) ∧ (headP ref12_worth_C ref12_worth_lv [true, true, false, true, false] ref12_worth_b (ref12_worth_s0 b (((256 : UInt64) * n) + (UInt8.toUInt64 (List.getD b (Int.toNat i) (0 : UInt8)))) (w64 (i - (1 : Int)))) (fnK ref12_worth_C ref12_worth_r ref12_worth_hs Q))) (condP (eqb (decide ((0 : Int) < (((List.length b) : Nat) : Int))) true) (condP (eqb (bif true then (decide ((((List.length b) : Nat) : Int) < (8 : Int))) else false) true) ((((0 : Int) ≤ (w64 ((((List.length b) : Nat) : Int) - (1 : Int)))) ∧ ((w64 ((((List.length b) : Nat) : Int) - (1 : Int))) < (((List.length b) : Nat) : Int))) ∧ (condP (bif true then (decide ((128 : UInt8) ≤ (List.getD b (Int.toNat (w64 ((((List.length b) : Nat) : Int) - (1 : Int)))) (0 : UInt8)))) else false) (Q (ref12_worth_enc (w64 (((UInt64.toNat (n - (shl_u64 (1 : UInt64) (UInt64.toNat ((8 : UInt64) * (UInt64.ofInt (((List.length b) : Nat) : Int))))))) : Nat) : Int)))) (Q (ref12_worth_enc (w64 (((UInt64.toNat n) : Nat) : Int)))))) (Q (ref12_worth_enc (w64 (((UInt64.toNat n) : Nat) : Int))))) (Q (ref12_worth_enc (w64 (((UInt64.toNat n) : Nat) : Int)))))) := by kernel_rfl
theorem ref12_worth_k0 {r : Int} {Q : CallOut → Prop} (hQ : Q (ref12_worth_enc r)) : ∀ k : Nat, (∀ (b : List UInt8) (n : UInt64) (i : Int), ref12_worth_h0 k b n i = some r → headP ref12_worth_C ref12_worth_lv [true, true, false, true, false] ref12_worth_b (ref12_worth_s0 b n i) (fnK ref12_worth_C ref12_worth_r ref12_worth_hs Q))
  | 0 => fun _ _ _ h => no_ok h
  | k + 1 => fun b n i h => headP_step (Eq.mpr (ref12_worth_g0 b n i Q) (have h := (ref12_worth_h0_q k b n i).symm.trans h; cond_ok h (fun h => ite_ok h fun hc0 h => (ref12_worth_k0 hQ k) _ _ _ h) (fun h => cond_ok h (fun h => cond_ok h (fun h => ite_ok h fun hc0 h => cond_ok h (fun h => ret_ok (Q := Q) (e := ref12_worth_enc) h hQ) (fun h => ret_ok (Q := Q) (e := ref12_worth_enc) h hQ)) (fun h => ret_ok (Q := Q) (e := ref12_worth_enc) h hQ)) (fun h => ret_ok (Q := Q) (e := ref12_worth_enc) h hQ))))
theorem ref12_worth_e (b : List UInt8) (Q : CallOut → Prop) : evalFnP ref12_worth_C ref12_worth_lv ref12_worth_r ref12_worth_hs ref12_worth_b [.pv (.sl .u8 b)] [] Q =
    (headP ref12_worth_C ref12_worth_lv [true, true, false, true, false] ref12_worth_b (ref12_worth_s0 b (0 : UInt64) (w64 ((((List.length b) : Nat) : Int) - (1 : Int)))) (fnK ref12_worth_C ref12_worth_r ref12_worth_hs Q)) := by kernel_rfl
theorem ref12_worth_w {k : Nat} (b : List UInt8) {r} {Q : CallOut → Prop} (h : ref12_worth k b = some r) (hQ : Q (ref12_worth_enc r)) : evalFnP ref12_worth_C ref12_worth_lv ref12_worth_r ref12_worth_hs ref12_worth_b [.pv (.sl .u8 b)] [] Q :=
  Eq.mpr (ref12_worth_e b Q) (have h := (ref12_worth_q k b).symm.trans h; (ref12_worth_k0 hQ _) _ _ _ h)
def ref12_worth_c : Ans
  | [.pv (.sl .u8 b)], [] => some (some (b.length ≤ 8), ref12_worth_enc (numV b))
  | _, _ => none
theorem ref12_worth_tok : TblOK Try.prog noG ref12_worth_T := .nil
theorem ref12_worth_ok : FnOK Try.prog noG 29 (unW ref12_worth_c) := by
  refine FnOK.ofC (T := ref12_worth_T) (nt := 46) (np := 0) (nf := false) (hs := ref12_worth_hs) (fn := Try.f29) (body := ref12_worth_b) ref12_worth_tok (by kernel_rfl) (by kernel_rfl) (by kernel_rfl) (by kernel_rfl) (c := ref12_worth_c) (lv := ref12_worth_lv) ?_
  intro xs mem p out h hp
  unfold ref12_worth_c at h
  split at h
  · cases h
    obtain ⟨k, hk⟩ := ref12_worth_spec _ hp
    exact ref12_worth_w _ hk rfl
  · cases h
end
end Go.Proofs.Ytpgpagmnhikpiaa.M

namespace Go.Proofs.Ytpgpagmnhikpiaa.M
open Go
noncomputable section
set_option maxRecDepth 100000
noncomputable def ref12_Bytes_T : Tbl := [(29, [], ref12_worth_c)]
noncomputable def ref12_Bytes_C : CfgW := mkC Try.prog noG ref12_Bytes_T 20 0 false
def ref12_Bytes_lv : Nat → List Nat := fun i => bif Nat.beq i 0 then [0, 3] else []
noncomputable abbrev ref12_Bytes_b : Code := Try.f16.body.getD .skip
noncomputable abbrev ref12_Bytes_r : List ResultVar := Try.f16.results.toList
def ref12_Bytes_hs : List Nat := []

def ref12_Bytes_enc (r : List UInt8) : CallOut := ⟨.o 60000, [(60000, .row (.s .u8 r) false)], true, []⟩
def ref12_Bytes_s0 (n : Int) (b : List UInt8) : St := ⟨[(0, .pv (.sc .i n)), (3, .o 60000)], [(60000, .row (.s .u8 b) false)]⟩
theorem ref12_Bytes_g0 (n : Int) (b : List UInt8) (Q : CallOut → Prop) : headRound ref12_Bytes_C ref12_Bytes_lv [true, true, false, false] ref12_Bytes_b (ref12_Bytes_s0 n b) (fnK ref12_Bytes_C ref12_Bytes_r ref12_Bytes_hs Q) =
    (((List.length b) ≤ (8 : Nat)) ∧ (condP (!(decide ((numV b) = n))) (((((List.length (b ++ ([(UInt64.toUInt8 (shr_u64 (UInt64.ofInt n) (UInt64.toNat ((8 : UInt64) * (UInt64.ofInt (((List.length b) : Nat) : Int))))))] : List UInt8))) * (1 : Nat)) ≤ (70368744177664 : Nat)) ∧ ((List.length (b ++ ([(UInt64.toUInt8 (shr_u64 (UInt64.ofInt n) (UInt64.toNat ((8 : UInt64) * (UInt64.ofInt (((List.length b) : Nat) : Int))))))] : List UInt8))) ≤ (70368744177664 : Nat))) ∧ (headP ref12_Bytes_C ref12_Bytes_lv [true, true, false, false] ref12_Bytes_b (ref12_Bytes_s0 n (b ++ ([(UInt64.toUInt8 (shr_u64 (UInt64.ofInt n) (UInt64.toNat ((8 : UInt64) * (UInt64.ofInt (((List.length b) : Nat) : Int))))))] : List UInt8))) (fnK ref12_Bytes_C ref12_Bytes_r ref12_Bytes_hs Q))) (Q (ref12_Bytes_enc b)))) := by kernel_rfl
theorem ref12_Bytes_k0 {r : List UInt8} {Q : CallOut → Prop} (hQ : Q (ref12_Bytes_enc r)) : ∀ k : Nat, (∀ (n : Int) (b : List UInt8), ref12_Bytes_h0 k n b = some r → headP ref12_Bytes_C ref12_Bytes_lv [true, true, false, false] ref12_Bytes_b (ref12_Bytes_s0 n b) (fnK ref12_Bytes_C ref12_Bytes_r ref12_Bytes_hs Q))
  | 0 => fun _ _ h => no_ok h
  | k + 1 => fun n b h => headP_step (Eq.mpr (ref12_Bytes_g0 n b Q) (have h := (ref12_Bytes_h0_q k n b).symm.trans h; ite_ok h fun hc0 h => cond_ok h (fun h => ite_ok h fun hc1 h => (ref12_Bytes_k0 hQ k) _ _ h) (fun h => ret_ok (Q := Q) (e := ref12_Bytes_enc) h hQ)))
theorem ref12_Bytes_e (n : Int) (Q : CallOut → Prop) : evalFnP ref12_Bytes_C ref12_Bytes_lv ref12_Bytes_r ref12_Bytes_hs ref12_Bytes_b [.pv (.sc .i n)] [] Q =
    (headP ref12_Bytes_C ref12_Bytes_lv [true, true, false, false] ref12_Bytes_b (ref12_Bytes_s0 n ([] : List UInt8)) (fnK ref12_Bytes_C ref12_Bytes_r ref12_Bytes_hs Q)) := by kernel_rfl
theorem ref12_Bytes_w {k : Nat} (n : Int) {r} {Q : CallOut → Prop} (h : ref12_Bytes k n = some r) (hQ : Q (ref12_Bytes_enc r)) : evalFnP ref12_Bytes_C ref12_Bytes_lv ref12_Bytes_r ref12_Bytes_hs ref12_Bytes_b [.pv (.sc .i n)] [] Q :=
  Eq.mpr (ref12_Bytes_e n Q) (have h := (ref12_Bytes_q k n).symm.trans h; (ref12_Bytes_k0 hQ _) _ _ h)
def ref12_Bytes_c : Ans
  | [.pv (.sc .i n)], [] => some (some (I64 n), ref12_Bytes_enc (numB n))
  | _, _ => none
theorem ref12_Bytes_tok : TblOK Try.prog noG ref12_Bytes_T := .cons ⟨by kernel_rfl, ref12_worth_ok⟩ (.nil)
theorem ref12_Bytes_ok : FnOK Try.prog noG 16 (unW ref12_Bytes_c) := by
  refine FnOK.ofC (T := ref12_Bytes_T) (nt := 20) (np := 0) (nf := false) (hs := ref12_Bytes_hs) (fn := Try.f16) (body := ref12_Bytes_b) ref12_Bytes_tok (by kernel_rfl) (by kernel_rfl) (by kernel_rfl) (by kernel_rfl) (c := ref12_Bytes_c) (lv := ref12_Bytes_lv) ?_
  intro xs mem p out h hp
  unfold ref12_Bytes_c at h
  split at h
  · cases h
    obtain ⟨k, hk⟩ := ref12_Bytes_spec _ hp
    exact ref12_Bytes_w _ hk rfl
  · cases h
end
end Go.Proofs.Ytpgpagmnhikpiaa.M

namespace Go.Proofs.Ytpgpagmnhikpiaa.M
open Go
noncomputable section
set_option maxRecDepth 100000
noncomputable def ref12_Number_T : Tbl := [(29, [], ref12_worth_c), (16, [], ref12_Bytes_c)]
noncomputable def ref12_Number_C : CfgW := mkC Try.prog noG ref12_Number_T 18 0 false
def ref12_Number_lv : Nat → List Nat := fun i => []
noncomputable abbrev ref12_Number_b : Code := Try.f15.body.getD .skip
noncomputable abbrev ref12_Number_r : List ResultVar := Try.f15.results.toList
def ref12_Number_hs : List Nat := []

def ref12_Number_enc (r : Int × Int) : CallOut := ⟨.tup [.pv (.sc .i r.1), .pv (.sc .i r.2)], [], true, []⟩
theorem ref12_Number_e (b : List UInt8) (Q : CallOut → Prop) : evalFnP ref12_Number_C ref12_Number_lv ref12_Number_r ref12_Number_hs ref12_Number_b [.pv (.sl .u8 b)] [] Q =
    (condP (eqb (decide ((8 : Int) < (((List.length b) : Nat) : Int))) false) (((List.length b) ≤ (8 : Nat)) ∧ ((I64 (numV b)) ∧ (condP (bif false then true else (!(decide ((((List.length (numB (numV b))) : Nat) : Int) = (((List.length b) : Nat) : Int))))) (Q (ref12_Number_enc ((0 : Int), (5 : Int)))) (((List.length b) ≤ (8 : Nat)) ∧ (Q (ref12_Number_enc ((numV b), (0 : Int)))))))) (Q (ref12_Number_enc ((0 : Int), (5 : Int))))) := by kernel_rfl
theorem ref12_Number_w (b : List UInt8) {r} {Q : CallOut → Prop} (h : ref12_Number b = some r) (hQ : Q (ref12_Number_enc r)) : evalFnP ref12_Number_C ref12_Number_lv ref12_Number_r ref12_Number_hs ref12_Number_b [.pv (.sl .u8 b)] [] Q :=
  Eq.mpr (ref12_Number_e b Q) (have h := (ref12_Number_q b).symm.trans h; cond_ok h (fun h => ite_ok h fun hc0 h => ite_ok h fun hc1 h => cond_ok h (fun h => ret_ok (Q := Q) (e := ref12_Number_enc) h hQ) (fun h => ⟨hc0, ret_ok (Q := Q) (e := ref12_Number_enc) h hQ⟩)) (fun h => ret_ok (Q := Q) (e := ref12_Number_enc) h hQ))
def ref12_Number_c : Ans
  | [.pv (.sl .u8 b)], [] => some (none, ref12_Number_enc (numOf b))
  | _, _ => none
theorem ref12_Number_tok : TblOK Try.prog noG ref12_Number_T := .cons ⟨by kernel_rfl, ref12_worth_ok⟩ (.cons ⟨by kernel_rfl, ref12_Bytes_ok⟩ (.nil))
theorem ref12_Number_ok : FnOK Try.prog noG 15 (unW ref12_Number_c) := by
  refine FnOK.ofC (T := ref12_Number_T) (nt := 18) (np := 0) (nf := false) (hs := ref12_Number_hs) (fn := Try.f15) (body := ref12_Number_b) ref12_Number_tok (by kernel_rfl) (by kernel_rfl) (by kernel_rfl) (by kernel_rfl) (c := ref12_Number_c) (lv := ref12_Number_lv) ?_
  intro xs mem p out h hp
  unfold ref12_Number_c at h
  split at h
  · cases h
    exact ref12_Number_w _ (ref12_Number_spec _) rfl
  · cases h
end
end Go.Proofs.Ytpgpagmnhikpiaa.M

namespace Go.Proofs.Ytpgpagmnhikpiaa.M
open Go
noncomputable section
set_option maxRecDepth 100000
noncomputable def ref12_True_T : Tbl := []
noncomputable def ref12_True_C : CfgW := mkC Try.prog noG ref12_True_T 15 0 false
def ref12_True_lv : Nat → List Nat := fun i => bif Nat.beq i 0 then [0, 3] else []
noncomputable abbrev ref12_True_b : Code := Try.f18.body.getD .skip
noncomputable abbrev ref12_True_r : List ResultVar := Try.f18.results.toList
def ref12_True_hs : List Nat := []

def ref12_True_enc (r : Bool) : CallOut := ⟨.pv (.sc .b r), [], true, []⟩
def ref12_True_s0 (b : List UInt8) (i : Int) : St := ⟨[(0, .pv (.sl .u8 b)), (3, .pv (.sc .i i))], []⟩
theorem ref12_True_g0 (b : List UInt8) (i : Int) (Q : CallOut → Prop) : headRound ref12_True_C ref12_True_lv [true, false, true, false] ref12_True_b (ref12_True_s0 b i) (fnK ref12_True_C ref12_True_r ref12_True_hs Q) =
    (condP (decide (i < (((List.length b) : Nat) : Int))) ((((0 : Int) ≤ i) ∧ (i < (((List.length b) : Nat) : Int))) ∧ (condP (!(decide ((List.getD b (Int.toNat i) (0 : UInt8)) = (0 : UInt8)))) (Q (ref12_True_enc true)) (headP ref12_True_C ref12_True_lv [true, false, true, false] ref12_True_b (ref12_True_s0 b (w64 (i + (1 : Int)))) (fnK ref12_True_C ref12_True_r ref12_True_hs Q)))) (Q (ref12_True_enc false))) := by kernel_rfl
theorem ref12_True_k0 {r : Bool} {Q : CallOut → Prop} (hQ : Q (ref12_True_enc r)) : ∀ k : Nat, (∀ (b : List UInt8) (i : Int), ref12_True_h0 k b i = some r → headP ref12_True_C ref12_True_lv [true, false, true, false] ref12_True_b (ref12_True_s0 b i) (fnK ref12_True_C ref12_True_r ref12_True_hs Q))
  | 0 => fun _ _ h => no_ok h
  | k + 1 => fun b i h => headP_step (Eq.mpr (ref12_True_g0 b i Q) (have h := (ref12_True_h0_q k b i).symm.trans h; cond_ok h (fun h => ite_ok h fun hc0 h => cond_ok h (fun h => ret_ok (Q := Q) (e := ref12_True_enc) h hQ) (fun h => (ref12_True_k0 hQ k) _ _ h)) (fun h => ret_ok (Q := Q) (e := ref12_True_enc) h hQ)))
theorem ref12_True_e (b : List UInt8) (Q : CallOut → Prop) : evalFnP ref12_True_C ref12_True_lv ref12_True_r ref12_True_hs ref12_True_b [.pv (.sl .u8 b)] [] Q =
    (headP ref12_True_C ref12_True_lv [true, false, true, false] ref12_True_b (ref12_True_s0 b (0 : Int)) (fnK ref12_True_C ref12_True_r ref12_True_hs Q)) := by kernel_rfl
theorem ref12_True_w {k : Nat} (b : List UInt8) {r} {Q : CallOut → Prop} (h : ref12_True k b = some r) (hQ : Q (ref12_True_enc r)) : evalFnP ref12_True_C ref12_True_lv ref12_True_r ref12_True_hs ref12_True_b [.pv (.sl .u8 b)] [] Q :=
  Eq.mpr (ref12_True_e b Q) (have h := (ref12_True_q k b).symm.trans h; (ref12_True_k0 hQ _) _ _ h)
def ref12_True_c : Ans
  | [.pv (.sl .u8 b)], [] => some (some (b.length ≤ 1152921504606846976), ref12_True_enc (cellTrue b))
  | _, _ => none
theorem ref12_True_tok : TblOK Try.prog noG ref12_True_T := .nil
theorem ref12_True_ok : FnOK Try.prog noG 18 (unW ref12_True_c) := by
  refine FnOK.ofC (T := ref12_True_T) (nt := 15) (np := 0) (nf := false) (hs := ref12_True_hs) (fn := Try.f18) (body := ref12_True_b) ref12_True_tok (by kernel_rfl) (by kernel_rfl) (by kernel_rfl) (by kernel_rfl) (c := ref12_True_c) (lv := ref12_True_lv) ?_
  intro xs mem p out h hp
  unfold ref12_True_c at h
  split at h
  · cases h
    obtain ⟨k, hk⟩ := ref12_True_spec _ hp
    exact ref12_True_w _ hk rfl
  · cases h
end
end Go.Proofs.Ytpgpagmnhikpiaa.M

namespace Go.Proofs.Ytpgpagmnhikpiaa.M
open Go
noncomputable section
set_option maxRecDepth 100000
noncomputable def ref12_Bool_T : Tbl := []
noncomputable def ref12_Bool_C : CfgW := mkC Try.prog noG ref12_Bool_T 5 0 false
def ref12_Bool_lv : Nat → List Nat := fun i => []
noncomputable abbrev ref12_Bool_b : Code := Try.f20.body.getD .skip
noncomputable abbrev ref12_Bool_r : List ResultVar := Try.f20.results.toList
def ref12_Bool_hs : List Nat := []

def ref12_Bool_enc (r : List UInt8) : CallOut := ⟨.o 60000, [(60000, .row (.s .u8 r) false)], true, []⟩
theorem ref12_Bool_e (is_0 : Bool) (Q : CallOut → Prop) : evalFnP ref12_Bool_C ref12_Bool_lv ref12_Bool_r ref12_Bool_hs ref12_Bool_b [.pv (.sc .b is_0)] [] Q =
    (condP is_0 (Q (ref12_Bool_enc ([(1 : UInt8)] : List UInt8))) (Q (ref12_Bool_enc ([] : List UInt8)))) := by kernel_rfl
theorem ref12_Bool_w (is_0 : Bool) {Q : CallOut → Prop} (h : Q (ref12_Bool_enc (ref12_Bool is_0))) : evalFnP ref12_Bool_C ref12_Bool_lv ref12_Bool_r ref12_Bool_hs ref12_Bool_b [.pv (.sc .b is_0)] [] Q :=
  Eq.mpr (ref12_Bool_e is_0 Q) (have h := Eq.mp (congrArg (fun r => Q (ref12_Bool_enc r)) (ref12_Bool_q is_0)) h; cond_ok2 (Q := fun r => Q (ref12_Bool_enc r)) h (fun h => h) (fun h => h))
def ref12_Bool_c : Ans
  | [.pv (.sc .b is_0)], [] => some (none, ref12_Bool_enc (ref12_Bool is_0))
  | _, _ => none
theorem ref12_Bool_tok : TblOK Try.prog noG ref12_Bool_T := .nil
theorem ref12_Bool_ok : FnOK Try.prog noG 20 (unW ref12_Bool_c) := by
  refine FnOK.ofC (T := ref12_Bool_T) (nt := 5) (np := 0) (nf := false) (hs := ref12_Bool_hs) (fn := Try.f20) (body := ref12_Bool_b) ref12_Bool_tok (by kernel_rfl) (by kernel_rfl) (by kernel_rfl) (by kernel_rfl) (c := ref12_Bool_c) (lv := ref12_Bool_lv) ?_
  intro xs mem p out h hp
  unfold ref12_Bool_c at h
  split at h
  · cases h
    exact ref12_Bool_w _ rfl
  · cases h
end
end Go.Proofs.Ytpgpagmnhikpiaa.M
