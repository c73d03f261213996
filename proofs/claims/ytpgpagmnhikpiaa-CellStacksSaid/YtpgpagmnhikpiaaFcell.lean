/- Part of the proofs: what functions of the program do: plain functions, and the walks that show it. No condition. -/
import Derived.KernelRfl
import Derived.Test.YtpgpagmnhikpiaaProg
import Derived.Test.YtpgpagmnhikpiaaLd
import Derived.Test.YtpgpagmnhikpiaaSwords
import Derived.Test.YtpgpagmnhikpiaaScellS
import Derived.Test.YtpgpagmnhikpiaaFbytes
import Derived.Test.YtpgpagmnhikpiaaFbits
set_option linter.unusedVariables false
set_option linter.unusedSimpArgs false
set_option autoImplicit false
namespace Go.Proofs.Ytpgpagmnhikpiaa.M
open Go
noncomputable section
/-- the loop 0 of moneyer/cell.Bytes -/
def cell_Bytes_h0 : Nat → Int → UInt64 → (List UInt8) → Option (List UInt8)
  | 0, _, _, _ => none
  | k + 1, n, k_, b => bif eqb (!(decide (n = (0 : Int)))) true then (bif bif true then (decide (k_ < (8 : UInt64))) else false then (if (((List.length (b ++ ([(UInt8.ofInt (shr_i n (UInt64.toNat ((8 : UInt64) * k_))))] : List UInt8))) * (1 : Nat)) ≤ (70368744177664 : Nat)) ∧ ((List.length (b ++ ([(UInt8.ofInt (shr_i n (UInt64.toNat ((8 : UInt64) * k_))))] : List UInt8))) ≤ (70368744177664 : Nat)) then
          bif eqb (decide ((-(128 : Int)) ≤ (shr_i n (UInt64.toNat ((8 : UInt64) * k_))))) true then (bif bif true then (decide ((shr_i n (UInt64.toNat ((8 : UInt64) * k_))) ≤ (127 : Int))) else false then (some (b ++ ([(UInt8.ofInt (shr_i n (UInt64.toNat ((8 : UInt64) * k_))))] : List UInt8)))
              else (cell_Bytes_h0 k n (k_ + (1 : UInt64)) (b ++ ([(UInt8.ofInt (shr_i n (UInt64.toNat ((8 : UInt64) * k_))))] : List UInt8))))
            else (cell_Bytes_h0 k n (k_ + (1 : UInt64)) (b ++ ([(UInt8.ofInt (shr_i n (UInt64.toNat ((8 : UInt64) * k_))))] : List UInt8)))
        else none)
        else (some b))
      else (some b)
theorem cell_Bytes_h0_q (k : Nat) (n : Int) (k_ : UInt64) (b : List UInt8) : cell_Bytes_h0 (k + 1) n k_ b =
  (bif eqb (!(decide (n = (0 : Int)))) true then (bif bif true then (decide (k_ < (8 : UInt64))) else false then (if (((List.length (b ++ ([(UInt8.ofInt (shr_i n (UInt64.toNat ((8 : UInt64) * k_))))] : List UInt8))) * (1 : Nat)) ≤ (70368744177664 : Nat)) ∧ ((List.length (b ++ ([(UInt8.ofInt (shr_i n (UInt64.toNat ((8 : UInt64) * k_))))] : List UInt8))) ≤ (70368744177664 : Nat)) then
          bif eqb (decide ((-(128 : Int)) ≤ (shr_i n (UInt64.toNat ((8 : UInt64) * k_))))) true then (bif bif true then (decide ((shr_i n (UInt64.toNat ((8 : UInt64) * k_))) ≤ (127 : Int))) else false then (some (b ++ ([(UInt8.ofInt (shr_i n (UInt64.toNat ((8 : UInt64) * k_))))] : List UInt8)))
              else (cell_Bytes_h0 k n (k_ + (1 : UInt64)) (b ++ ([(UInt8.ofInt (shr_i n (UInt64.toNat ((8 : UInt64) * k_))))] : List UInt8))))
            else (cell_Bytes_h0 k n (k_ + (1 : UInt64)) (b ++ ([(UInt8.ofInt (shr_i n (UInt64.toNat ((8 : UInt64) * k_))))] : List UInt8)))
        else none)
        else (some b))
      else (some b)) := by kernel_rfl
/-- moneyer/cell.Bytes -/
def cell_Bytes (k : Nat) (n : Int) : Option (List UInt8) :=
  cell_Bytes_h0 k n (0 : UInt64) ([] : List UInt8)
theorem cell_Bytes_q (k : Nat) (n : Int) : cell_Bytes k n = (cell_Bytes_h0 k n (0 : UInt64) ([] : List UInt8)) := by kernel_rfl
theorem u64_mul8 {k : Nat} (h : k ≤ 8) : ((8 : UInt64) * UInt64.ofNat k).toNat = 8 * k := by
  rw [UInt64.toNat_mul, UInt64.toNat_ofNat', show (8 : UInt64).toNat = 8 from rfl]
  omega
theorem cell_Bytes_loop (n : Int) (h0 : n ≠ 0) (hn : I64 n) : ∀ j k b, k + j = 7 → b.length = k → Ev (fun f => cell_Bytes_h0 f n (UInt64.ofNat k) b) (b ++ numP (8 - k) (n / 256 ^ k)) := by
  have e8 : ∀ k, k ≤ 7 → (decide (UInt64.ofNat k < (8 : UInt64))) = true := by
    intro k hk
    rw [decide_eq_true_eq, UInt64.lt_iff_toNat_lt, UInt64.toNat_ofNat', show (8 : UInt64).toNat = 8 from rfl]
    omega
  have es : ∀ k : Nat, UInt64.ofNat k + 1 = UInt64.ofNat (k + 1) := by
    intro k
    simp [UInt64.ofNat_add]
  intro j
  induction j with
  | zero =>
    intro k b hk hb
    obtain rfl : k = 7 := by omega
    have hd : -128 ≤ n / 256 ^ 7 ∧ n / 256 ^ 7 < 128 := by obtain ⟨h1, h2⟩ := hn; omega
    refine Ev.done fun f => ?_
    rw [cell_Bytes_h0_q, decide_eq_false h0, u64_mul8 (by omega), shr_i_eq n 7 (by omega), e8 7 (by omega)]
    simp only [eqb_t, Bool.not_false, cond_true]
    rw [if_pos (by simp; omega), decide_eq_true hd.1, cond_true, decide_eq_true (by omega), cond_true]
    simp only [numP, hd, and_self, if_true]
    rfl
  | succ j ih =>
    intro k b hk hb
    by_cases hd : -128 ≤ n / 256 ^ k ∧ n / 256 ^ k < 128
    · refine Ev.done fun f => ?_
      rw [cell_Bytes_h0_q, decide_eq_false h0, u64_mul8 (by omega), shr_i_eq n k (by omega), e8 k (by omega)]
      simp only [eqb_t, Bool.not_false, cond_true]
      rw [if_pos (by simp; omega), decide_eq_true hd.1, cond_true, decide_eq_true (by omega), cond_true]
      rw [show 8 - k = (7 - k) + 1 by omega, numP, if_pos hd]
      rfl
    · have hr := ih (k + 1) (b ++ [byteI (n / 256 ^ k)]) (by omega) (by simp [hb])
      have e : b ++ numP (8 - k) (n / 256 ^ k) = b ++ [byteI (n / 256 ^ k)] ++ numP (8 - (k + 1)) (n / 256 ^ (k + 1)) := by
        rw [show 8 - k = (7 - k) + 1 by omega, numP, if_neg hd, show 8 - (k + 1) = 7 - k by omega, Int.pow_succ, ← Int.ediv_ediv_of_nonneg (by exact Int.pow_nonneg (by decide))]
        simp
      rw [e]
      refine Ev.step (fun f => ?_) hr
      rw [cell_Bytes_h0_q, decide_eq_false h0, u64_mul8 (by omega), shr_i_eq n k (by omega), e8 k (by omega)]
      simp only [eqb_t, Bool.not_false, cond_true]
      rw [if_pos (by simp; omega), es]
      by_cases h1 : -128 ≤ n / 256 ^ k
      · rw [decide_eq_true h1, cond_true, decide_eq_false (by omega), cond_false]; rfl
      · rw [decide_eq_false h1, cond_false]; rfl
theorem cell_Bytes_spec (n : Int) (hn : I64 n) : ∃ k, cell_Bytes k n = some (numB n) := by
  show Ev (fun k => cell_Bytes k n) _
  refine Ev.same (fun k => cell_Bytes_q k n) ?_
  by_cases h0 : n = 0
  · subst h0
    refine Ev.done fun f => ?_
    rw [cell_Bytes_h0_q]
    rfl
  · have := cell_Bytes_loop n h0 hn 7 0 [] rfl rfl
    simpa [numB, h0] using this

end
end Go.Proofs.Ytpgpagmnhikpiaa.M

namespace Go.Proofs.Ytpgpagmnhikpiaa.M
open Go
noncomputable section
/-- the loop 0 of moneyer/cell.Number -/
def cell_Number_h0 : Nat → (List UInt8) → UInt64 → (List UInt8) → Int → Int → Option (Int × Int)
  | 0, _, _, _, _, _ => none
  | k + 1, b, n, t12, t13, t14 => bif decide (t14 < t13) then (if ((0 : Int) ≤ t14) ∧ (t14 < (((List.length t12) : Nat) : Int)) then
        cell_Number_h0 k b (n ||| (shl_u64 (UInt8.toUInt64 (List.getD t12 (Int.toNat t14) (0 : UInt8))) (UInt64.toNat ((8 : UInt64) * (UInt64.ofInt t14))))) t12 t13 (w64 (t14 + (1 : Int)))
      else none)
      else (bif decide ((((List.length b) : Nat) : Int) = (0 : Int)) then (bif !(decide ((numB (0 : Int)) = b)) then (some ((0 : Int), (5 : Int)))
          else (some ((0 : Int), (0 : Int))))
        else (if I64 (shr_i (w64 (((UInt64.toNat (shl_u64 n (UInt64.toNat ((64 : UInt64) - ((8 : UInt64) * (UInt64.ofInt (((List.length b) : Nat) : Int))))))) : Nat) : Int)) (UInt64.toNat ((64 : UInt64) - ((8 : UInt64) * (UInt64.ofInt (((List.length b) : Nat) : Int)))))) then
          bif !(decide ((numB (shr_i (w64 (((UInt64.toNat (shl_u64 n (UInt64.toNat ((64 : UInt64) - ((8 : UInt64) * (UInt64.ofInt (((List.length b) : Nat) : Int))))))) : Nat) : Int)) (UInt64.toNat ((64 : UInt64) - ((8 : UInt64) * (UInt64.ofInt (((List.length b) : Nat) : Int))))))) = b)) then (some ((0 : Int), (5 : Int)))
            else (some ((shr_i (w64 (((UInt64.toNat (shl_u64 n (UInt64.toNat ((64 : UInt64) - ((8 : UInt64) * (UInt64.ofInt (((List.length b) : Nat) : Int))))))) : Nat) : Int)) (UInt64.toNat ((64 : UInt64) - ((8 : UInt64) * (UInt64.ofInt (((List.length b) : Nat) : Int)))))), (0 : Int)))
        else none))
theorem cell_Number_h0_q (k : Nat) (b : List UInt8) (n : UInt64) (t12 : List UInt8) (t13 : Int) (t14 : Int) : cell_Number_h0 (k + 1) b n t12 t13 t14 =
  (bif decide (t14 < t13) then (if ((0 : Int) ≤ t14) ∧ (t14 < (((List.length t12) : Nat) : Int)) then
        cell_Number_h0 k b (n ||| (shl_u64 (UInt8.toUInt64 (List.getD t12 (Int.toNat t14) (0 : UInt8))) (UInt64.toNat ((8 : UInt64) * (UInt64.ofInt t14))))) t12 t13 (w64 (t14 + (1 : Int)))
      else none)
      else (bif decide ((((List.length b) : Nat) : Int) = (0 : Int)) then (bif !(decide ((numB (0 : Int)) = b)) then (some ((0 : Int), (5 : Int)))
          else (some ((0 : Int), (0 : Int))))
        else (if I64 (shr_i (w64 (((UInt64.toNat (shl_u64 n (UInt64.toNat ((64 : UInt64) - ((8 : UInt64) * (UInt64.ofInt (((List.length b) : Nat) : Int))))))) : Nat) : Int)) (UInt64.toNat ((64 : UInt64) - ((8 : UInt64) * (UInt64.ofInt (((List.length b) : Nat) : Int)))))) then
          bif !(decide ((numB (shr_i (w64 (((UInt64.toNat (shl_u64 n (UInt64.toNat ((64 : UInt64) - ((8 : UInt64) * (UInt64.ofInt (((List.length b) : Nat) : Int))))))) : Nat) : Int)) (UInt64.toNat ((64 : UInt64) - ((8 : UInt64) * (UInt64.ofInt (((List.length b) : Nat) : Int))))))) = b)) then (some ((0 : Int), (5 : Int)))
            else (some ((shr_i (w64 (((UInt64.toNat (shl_u64 n (UInt64.toNat ((64 : UInt64) - ((8 : UInt64) * (UInt64.ofInt (((List.length b) : Nat) : Int))))))) : Nat) : Int)) (UInt64.toNat ((64 : UInt64) - ((8 : UInt64) * (UInt64.ofInt (((List.length b) : Nat) : Int)))))), (0 : Int)))
        else none))) := by kernel_rfl
/-- moneyer/cell.Number -/
def cell_Number (k : Nat) (b : List UInt8) : Option (Int × Int) :=
  bif decide ((8 : Int) < (((List.length b) : Nat) : Int)) then (some ((0 : Int), (5 : Int)))
    else (cell_Number_h0 k b (0 : UInt64) b (((List.length b) : Nat) : Int) (0 : Int))
theorem cell_Number_q (k : Nat) (b : List UInt8) : cell_Number k b = (bif decide ((8 : Int) < (((List.length b) : Nat) : Int)) then (some ((0 : Int), (5 : Int)))
    else (cell_Number_h0 k b (0 : UInt64) b (((List.length b) : Nat) : Int) (0 : Int))) := by kernel_rfl
theorem cell_Number_end (b : List UInt8) (hb : b.length ≤ 8) (t12 : List UInt8) (t13 : Int) : Ev (fun f => cell_Number_h0 f b (UInt64.ofNat (numU b)) t12 t13 t13) (numOf b) := by
  have hlt := numU_lt b
  have hp : 256 ^ b.length ≤ 256 ^ 8 := Nat.pow_le_pow_right (by decide) hb
  have hu : (UInt64.ofNat (numU b)).toNat = numU b := by rw [UInt64.toNat_ofNat']; omega
  refine Ev.done fun f => ?_
  rw [cell_Number_h0_q, bif_neg (by omega)]
  cases b with
  | nil => rfl
  | cons x r =>
    rw [List.length_cons] at hb hlt hp
    have hV := numV_U x r
    have key : shr_i (w64 (((UInt64.toNat (shl_u64 (UInt64.ofNat (numU (x :: r))) (UInt64.toNat ((64 : UInt64) - ((8 : UInt64) * (UInt64.ofInt (((List.length (x :: r)) : Nat) : Int))))))) : Nat) : Int)) (UInt64.toNat ((64 : UInt64) - ((8 : UInt64) * (UInt64.ofInt (((List.length (x :: r)) : Nat) : Int))))) = numV (x :: r) := by
      have e3 : ((64 : UInt64) - (8 : UInt64) * UInt64.ofInt (((x :: r).length : Nat) : Int)).toNat = 64 - 8 * (r.length + 1) := by
        rw [UInt64.toNat_sub, UInt64.toNat_mul, u64_ofInt (by simp; omega), show (8 : UInt64).toNat = 8 from rfl, show (64 : UInt64).toNat = 64 from rfl, List.length_cons]
        omega
      rw [e3, hV]
      unfold shl_u64 shr_i
      rw [UInt64.toNat_ofNat', hu]
      generalize numU (x :: r) = u at *
      generalize r.length = l at *
      have : l = 0 ∨ l = 1 ∨ l = 2 ∨ l = 3 ∨ l = 4 ∨ l = 5 ∨ l = 6 ∨ l = 7 := by omega
      rcases this with q | q | q | q | q | q | q | q <;> subst q <;> simp [w64_eq, Int.fdiv_eq_ediv_of_nonneg] at hlt ⊢ <;> split <;> split <;> omega
    have hI := numV_I64 (x :: r) (by simpa using hb)
    rw [key, bif_neg (by rw [List.length_cons]; omega), if_pos hI]
    unfold numOf
    by_cases h : numB (numV (x :: r)) = x :: r
    · rw [decide_eq_true h, if_pos ⟨by simpa using hb, h⟩]; rfl
    · rw [decide_eq_false h, if_neg (fun q => h q.2)]; rfl
theorem cell_Number_spec (b : List UInt8) : ∃ k, cell_Number k b = some (numOf b) := by
  show Ev (fun k => cell_Number k b) _
  refine Ev.same (fun k => cell_Number_q k b) ?_
  by_cases hb : b.length ≤ 8
  · refine Ev.same (fun k => bif_neg (by omega)) ?_
    have gen : ∀ j i, i + j = b.length → Ev (fun f => cell_Number_h0 f b (UInt64.ofNat (numU (b.take i))) b ((b.length : Nat) : Int) ((i : Nat) : Int)) (numOf b) := by
      intro j
      induction j with
      | zero =>
        intro i hi
        obtain rfl : i = b.length := by omega
        rw [List.take_length]
        exact cell_Number_end b hb b _
      | succ j ih =>
        intro i hi
        refine Ev.step (fun f => ?_) (ih (i + 1) (by omega))
        have e8 : ((8 : UInt64) * UInt64.ofInt ((i : Nat) : Int)).toNat = 8 * i := by
          rw [UInt64.toNat_mul, u64_ofInt (by omega), show (8 : UInt64).toNat = 8 from rfl]
          omega
        rw [cell_Number_h0_q, bif_pos (by omega), if_pos (by omega), w64_id (by omega) (by omega), Int.toNat_natCast, e8]
        refine congrArg (fun y => cell_Number_h0 f b y b ((b.length : Nat) : Int) (((i + 1 : Nat)) : Int)) ?_
        have hlt := numU_lt (b.take i)
        have hlt2 := numU_lt (b.take (i + 1))
        have e : b.take (i + 1) = b.take i ++ [List.getD b i 0] := by
          rw [List.take_succ_eq_append_getElem (by omega)]
          simp [List.getD, show i < b.length by omega]
        have el : (b.take i).length = i := by simp; omega
        have el2 : (b.take (i + 1)).length = i + 1 := by simp; omega
        rw [el] at hlt
        rw [el2] at hlt2
        rw [e, numU_snoc, el] at hlt2 ⊢
        have hp : 256 ^ (i + 1) ≤ 256 ^ 8 := Nat.pow_le_pow_right (by decide) (by omega)
        have hp' : 256 ^ i ≤ 256 ^ 8 := Nat.pow_le_pow_right (by decide) (by omega)
        apply UInt64.toNat_inj.1
        unfold shl_u64
        rw [UInt64.toNat_or, UInt64.toNat_ofNat', UInt64.toNat_ofNat', UInt64.toNat_ofNat', UInt8.toNat_toUInt64, show min (8 * i) 64 = 8 * i by omega, Nat.pow_mul, show 2 ^ 8 = 256 from rfl]
        generalize (List.getD b i 0).toNat = c at *
        generalize numU (b.take i) = u at *
        rw [Nat.mod_eq_of_lt (by omega), Nat.mod_eq_of_lt (by omega), Nat.mod_eq_of_lt (by omega)]
        have h2 : c * 256 ^ i = 2 ^ (8 * i) * c := by rw [Nat.pow_mul, show 2 ^ 8 = 256 from rfl, Nat.mul_comm]
        have h3 : u < 2 ^ (8 * i) := by rw [Nat.pow_mul]; exact hlt
        rw [h2, Nat.or_comm, ← Nat.two_pow_add_eq_or_of_lt h3, Nat.add_comm]
    have := gen b.length 0 (by omega)
    simpa [numU] using this
  · refine ⟨0, ?_⟩
    simp only
    rw [bif_pos (by omega)]
    unfold numOf
    rw [if_neg (fun q => hb q.1)]

end
end Go.Proofs.Ytpgpagmnhikpiaa.M

namespace Go.Proofs.Ytpgpagmnhikpiaa.M
open Go
noncomputable section
/-- moneyer/cell.size -/
def cell_size (a : Int) : UInt64 :=
  bif decide (a < (0 : Int)) then (((0 : UInt64) - (UInt64.ofInt a)))
    else ((UInt64.ofInt a))
theorem cell_size_q (a : Int) : cell_size a = (bif decide (a < (0 : Int)) then (((0 : UInt64) - (UInt64.ofInt a)))
    else ((UInt64.ofInt a))) := by kernel_rfl

end
end Go.Proofs.Ytpgpagmnhikpiaa.M

namespace Go.Proofs.Ytpgpagmnhikpiaa.M
open Go
noncomputable section
/-- moneyer/cell.product -/
def cell_product (a : Int) (b : Int) : Int × Int :=
  bif eqb (!(decide ((Prod.fst ((mulHi (cell_size a) (cell_size b)), (mulLo (cell_size a) (cell_size b)))) = (0 : UInt64)))) false then (bif eqb (bif false then true else (decide ((9223372036854775808 : UInt64) < (Prod.snd ((mulHi (cell_size a) (cell_size b)), (mulLo (cell_size a) (cell_size b))))))) false then (bif eqb (decide ((Prod.snd ((mulHi (cell_size a) (cell_size b)), (mulLo (cell_size a) (cell_size b)))) = (9223372036854775808 : UInt64))) true then (bif bif false then true else (bif true then (!(!(decide ((decide (a < (0 : Int))) = (decide (b < (0 : Int))))))) else false) then (((0 : Int), (3 : Int)))
          else (bif !(decide ((decide (a < (0 : Int))) = (decide (b < (0 : Int))))) then (((w64 (((UInt64.toNat ((0 : UInt64) - (Prod.snd ((mulHi (cell_size a) (cell_size b)), (mulLo (cell_size a) (cell_size b)))))) : Nat) : Int)), (0 : Int)))
            else (((w64 (((UInt64.toNat (Prod.snd ((mulHi (cell_size a) (cell_size b)), (mulLo (cell_size a) (cell_size b))))) : Nat) : Int)), (0 : Int)))))
        else (bif !(decide ((decide (a < (0 : Int))) = (decide (b < (0 : Int))))) then (((w64 (((UInt64.toNat ((0 : UInt64) - (Prod.snd ((mulHi (cell_size a) (cell_size b)), (mulLo (cell_size a) (cell_size b)))))) : Nat) : Int)), (0 : Int)))
          else (((w64 (((UInt64.toNat (Prod.snd ((mulHi (cell_size a) (cell_size b)), (mulLo (cell_size a) (cell_size b))))) : Nat) : Int)), (0 : Int)))))
      else (((0 : Int), (3 : Int))))
    else (((0 : Int), (3 : Int)))
theorem cell_product_q (a : Int) (b : Int) : cell_product a b = (bif eqb (!(decide ((Prod.fst ((mulHi (cell_size a) (cell_size b)), (mulLo (cell_size a) (cell_size b)))) = (0 : UInt64)))) false then (bif eqb (bif false then true else (decide ((9223372036854775808 : UInt64) < (Prod.snd ((mulHi (cell_size a) (cell_size b)), (mulLo (cell_size a) (cell_size b))))))) false then (bif eqb (decide ((Prod.snd ((mulHi (cell_size a) (cell_size b)), (mulLo (cell_size a) (cell_size b)))) = (9223372036854775808 : UInt64))) true then (bif bif false then true else (bif true then (!(!(decide ((decide (a < (0 : Int))) = (decide (b < (0 : Int))))))) else false) then (((0 : Int), (3 : Int)))
          else (bif !(decide ((decide (a < (0 : Int))) = (decide (b < (0 : Int))))) then (((w64 (((UInt64.toNat ((0 : UInt64) - (Prod.snd ((mulHi (cell_size a) (cell_size b)), (mulLo (cell_size a) (cell_size b)))))) : Nat) : Int)), (0 : Int)))
            else (((w64 (((UInt64.toNat (Prod.snd ((mulHi (cell_size a) (cell_size b)), (mulLo (cell_size a) (cell_size b))))) : Nat) : Int)), (0 : Int)))))
        else (bif !(decide ((decide (a < (0 : Int))) = (decide (b < (0 : Int))))) then (((w64 (((UInt64.toNat ((0 : UInt64) - (Prod.snd ((mulHi (cell_size a) (cell_size b)), (mulLo (cell_size a) (cell_size b)))))) : Nat) : Int)), (0 : Int)))
          else (((w64 (((UInt64.toNat (Prod.snd ((mulHi (cell_size a) (cell_size b)), (mulLo (cell_size a) (cell_size b))))) : Nat) : Int)), (0 : Int)))))
      else (((0 : Int), (3 : Int))))
    else (((0 : Int), (3 : Int)))) := by kernel_rfl
theorem cell_size_nat {a : Int} (h : I64 a) : (cell_size a).toNat = a.natAbs := by
  obtain ⟨h1, h2⟩ := h
  have e : ∀ c : Int, (UInt64.ofInt c).toNat = (c % 18446744073709551616).toNat := by
    intro c
    rw [show UInt64.ofInt c = UInt64.ofNat (c % 2 ^ 64).toNat from rfl, UInt64.toNat_ofNat']
    omega
  unfold cell_size
  by_cases hn : a < 0
  · rw [bif_pos hn, UInt64.toNat_sub, e]
    simp only [UInt64.toNat_zero]
    omega
  · rw [bif_neg hn, e]; omega
theorem mul_sign {a b : Int} : (decide (a < 0) = decide (b < 0) → 0 ≤ a * b) ∧ (decide (a < 0) ≠ decide (b < 0) → a * b ≤ 0) := by
  by_cases h1 : a < 0 <;> by_cases h2 : b < 0 <;> simp [h1, h2]
  · exact Int.mul_nonneg_of_nonpos_of_nonpos (by omega) (by omega)
  · exact Int.mul_nonpos_of_nonpos_of_nonneg (by omega) (by omega)
  · exact Int.mul_nonpos_of_nonneg_of_nonpos (by omega) (by omega)
  · exact Int.mul_nonneg (by omega) (by omega)
theorem cell_product_spec (a b : Int) (hp : I64 a ∧ I64 b) : cell_product a b = ckI (a * b) := by
  obtain ⟨ha, hb⟩ := hp
  have sa := cell_size_nat ha
  have sb := cell_size_nat hb
  have hm : (a * b).natAbs = a.natAbs * b.natAbs := Int.natAbs_mul a b
  have hs := @mul_sign a b
  have la : a.natAbs ≤ 9223372036854775808 := by have := ha.1; have := ha.2; omega
  have lb : b.natAbs ≤ 9223372036854775808 := by have := hb.1; have := hb.2; omega
  have lp := Nat.mul_le_mul la lb
  have hhi : (mulHi (cell_size a) (cell_size b)).toNat = a.natAbs * b.natAbs / 18446744073709551616 := by
    unfold mulHi
    rw [lock_eq, UInt64.toNat_ofNat', sa, sb]
    generalize a.natAbs * b.natAbs = p at *
    omega
  have hlo : (mulLo (cell_size a) (cell_size b)).toNat = a.natAbs * b.natAbs % 18446744073709551616 := by
    unfold mulLo
    rw [lock_eq, UInt64.toNat_mul, sa, sb]
  unfold cell_product
  simp only [eqb_t, eqb_f, cond_true, cond_false]
  generalize mulHi (cell_size a) (cell_size b) = hi at *
  generalize mulLo (cell_size a) (cell_size b) = lo at *
  generalize a.natAbs * b.natAbs = p at *
  generalize a * b = m at *
  have z0 : (hi = 0) ↔ hi.toNat = 0 := by rw [← UInt64.toNat_inj]; rfl
  have z1 : ((9223372036854775808 : UInt64) < lo) ↔ 9223372036854775808 < lo.toNat := by rw [UInt64.lt_iff_toNat_lt]; rfl
  have z2 : (lo = (9223372036854775808 : UInt64)) ↔ lo.toNat = 9223372036854775808 := by rw [← UInt64.toNat_inj]; rfl
  have z3 : ((0 : UInt64) - lo).toNat = (18446744073709551616 - lo.toNat) % 18446744073709551616 := by rw [UInt64.toNat_sub]; simp
  simp only [z0, z1, z2, z3, hhi, hlo]
  by_cases hd : decide (a < 0) = decide (b < 0)
  · have h0 := hs.1 hd
    simp only [hd, decide_true, Bool.not_true, Bool.not_false, cond_true, cond_false, Bool.not_not, cond_dec, cond_if]
    unfold ckI
    by_cases c1 : p / 18446744073709551616 = 0
    · by_cases c2 : 9223372036854775808 < p % 18446744073709551616
      · simp [c1, c2]; omega
      · by_cases c3 : p % 18446744073709551616 = 9223372036854775808
        · simp [c1, c3]; omega
        · simp [c1, c2, c3]
          rw [if_pos (by omega), w64_id (by omega) (by omega)]
          simp; omega
    · simp [c1]; omega
  · have h0 := hs.2 hd
    simp only [decide_eq_false hd, decide_true, Bool.not_true, Bool.not_false, cond_true, cond_false, Bool.not_not, cond_dec, cond_if]
    unfold ckI
    by_cases c1 : p / 18446744073709551616 = 0
    · by_cases c2 : 9223372036854775808 < p % 18446744073709551616
      · simp [c1, c2]; omega
      · by_cases c3 : p % 18446744073709551616 = 9223372036854775808
        · have hd' : ¬ (a < 0 ↔ b < 0) := by simpa using hd
          simp [c1, c3, w64_eq, hd']; rw [if_pos (by omega)]; congr 1; omega
        · simp [c1, c2, c3]
          rw [if_pos (by omega), w64_eq]
          simp; split <;> omega
    · simp [c1]; omega

end
end Go.Proofs.Ytpgpagmnhikpiaa.M

namespace Go.Proofs.Ytpgpagmnhikpiaa.M
open Go
noncomputable section
/-- moneyer/cell.Two -/
def cell_Two (op : UInt8) (a : Int) (b : Int) : Option (Int × Int) :=
  bif decide (op = (13 : UInt8)) then (bif decide ((decide ((w64 (a + b)) < a)) = (decide (b < (0 : Int)))) then (some ((w64 (a + b)), (0 : Int)))
      else (some ((0 : Int), (3 : Int))))
    else (bif decide (op = (14 : UInt8)) then (bif decide ((decide (a < (w64 (a - b)))) = (decide (b < (0 : Int)))) then (some ((w64 (a - b)), (0 : Int)))
        else (some ((0 : Int), (3 : Int))))
      else (bif decide (op = (15 : UInt8)) then (if (I64 a) ∧ (I64 b) then
          some ((Prod.fst (ckI (a * b))), (Prod.snd (ckI (a * b))))
        else none)
        else (bif decide (op = (16 : UInt8)) then (bif decide (a < b) then (some ((1 : Int), (0 : Int)))
            else (some ((0 : Int), (0 : Int))))
          else (some ((0 : Int), (2 : Int))))))
theorem cell_Two_q (op : UInt8) (a : Int) (b : Int) : cell_Two op a b = (bif decide (op = (13 : UInt8)) then (bif decide ((decide ((w64 (a + b)) < a)) = (decide (b < (0 : Int)))) then (some ((w64 (a + b)), (0 : Int)))
      else (some ((0 : Int), (3 : Int))))
    else (bif decide (op = (14 : UInt8)) then (bif decide ((decide (a < (w64 (a - b)))) = (decide (b < (0 : Int)))) then (some ((w64 (a - b)), (0 : Int)))
        else (some ((0 : Int), (3 : Int))))
      else (bif decide (op = (15 : UInt8)) then (if (I64 a) ∧ (I64 b) then
          some ((Prod.fst (ckI (a * b))), (Prod.snd (ckI (a * b))))
        else none)
        else (bif decide (op = (16 : UInt8)) then (bif decide (a < b) then (some ((1 : Int), (0 : Int)))
            else (some ((0 : Int), (0 : Int))))
          else (some ((0 : Int), (2 : Int))))))) := by kernel_rfl
theorem dec_pp {p q : Prop} [Decidable p] [Decidable q] : decide (decide p = decide q) = decide (p ↔ q) := by
  by_cases hp : p <;> by_cases hq : q <;> simp [hp, hq]
theorem cell_Two_spec (op : UInt8) (a b : Int) (hp : I64 a ∧ I64 b) : cell_Two op a b = some (twoS op a b) := by
  obtain ⟨⟨a1, a2⟩, b1, b2⟩ := hp
  unfold twoS
  rw [cell_Two_q]
  simp only [dec_pp]
  by_cases h1 : op = 13
  · rw [bif_pos h1, if_pos h1]
    rcases w64_three (a + b) (by omega) (by omega) with ⟨⟨g1, g2⟩, e1, e2⟩ | ⟨g, e1, e2⟩ | ⟨g, e1, e2⟩
    · rw [e1, e2, bif_pos (by omega)]
    · rw [e1, e2, bif_neg (by omega)]
    · rw [e1, e2, bif_neg (by omega)]
  · rw [bif_neg h1, if_neg h1]
    by_cases h2 : op = 14
    · rw [bif_pos h2, if_pos h2]
      rcases w64_three (a - b) (by omega) (by omega) with ⟨⟨g1, g2⟩, e1, e2⟩ | ⟨g, e1, e2⟩ | ⟨g, e1, e2⟩
      · rw [e1, e2]
        by_cases hb : b = 0
        · subst hb
          rw [bif_pos (by omega)]
        · rw [bif_pos (by omega)]
      · rw [e1, e2, bif_neg (by omega)]
      · rw [e1, e2, bif_neg (by omega)]
    · rw [bif_neg h2, if_neg h2]
      by_cases h3 : op = 15
      · rw [bif_pos h3, if_pos h3, if_pos ⟨⟨a1, a2⟩, b1, b2⟩]
      · rw [bif_neg h3, if_neg h3]
        by_cases h4 : op = 16
        · rw [bif_pos h4, if_pos h4, cond_dec]
          split <;> rfl
        · rw [bif_neg h4, if_neg h4]

end
end Go.Proofs.Ytpgpagmnhikpiaa.M

namespace Go.Proofs.Ytpgpagmnhikpiaa.M
open Go
noncomputable section
/-- the loop 0 of moneyer/cell.copied -/
def cell_copied_h0 : Nat → (List PV) → Int → Int → (List PV) → Option (List PV)
  | 0, _, _, _, _ => none
  | k + 1, t6, t7, t8, out => bif decide (t8 < t7) then (if (((0 : Int) ≤ t8) ∧ (t8 < (((List.length t6) : Nat) : Int))) ∧ ((TY.chk (TY.sl EK.u8) (List.getD t6 (Int.toNat t8) PV.nilp)) = true) then
        if (List.length (PV.slv EK.u8 (List.getD t6 (Int.toNat t8) PV.nilp))) ≤ (140737488351232 : Nat) then
          if (((List.length (out ++ ([(RC.sl (RC.s EK.u8 (PV.slv EK.u8 (List.getD t6 (Int.toNat t8) PV.nilp))))] : List PV))) * (24 : Nat)) ≤ (70368744177664 : Nat)) ∧ ((List.length (out ++ ([(RC.sl (RC.s EK.u8 (PV.slv EK.u8 (List.getD t6 (Int.toNat t8) PV.nilp))))] : List PV))) ≤ (70368744177664 : Nat)) then
            cell_copied_h0 k t6 t7 (w64 (t8 + (1 : Int))) (out ++ ([(RC.sl (RC.s EK.u8 (PV.slv EK.u8 (List.getD t6 (Int.toNat t8) PV.nilp))))] : List PV))
          else none
        else none
      else none)
      else (some out)
theorem cell_copied_h0_q (k : Nat) (t6 : List PV) (t7 : Int) (t8 : Int) (out : List PV) : cell_copied_h0 (k + 1) t6 t7 t8 out =
  (bif decide (t8 < t7) then (if (((0 : Int) ≤ t8) ∧ (t8 < (((List.length t6) : Nat) : Int))) ∧ ((TY.chk (TY.sl EK.u8) (List.getD t6 (Int.toNat t8) PV.nilp)) = true) then
        if (List.length (PV.slv EK.u8 (List.getD t6 (Int.toNat t8) PV.nilp))) ≤ (140737488351232 : Nat) then
          if (((List.length (out ++ ([(RC.sl (RC.s EK.u8 (PV.slv EK.u8 (List.getD t6 (Int.toNat t8) PV.nilp))))] : List PV))) * (24 : Nat)) ≤ (70368744177664 : Nat)) ∧ ((List.length (out ++ ([(RC.sl (RC.s EK.u8 (PV.slv EK.u8 (List.getD t6 (Int.toNat t8) PV.nilp))))] : List PV))) ≤ (70368744177664 : Nat)) then
            cell_copied_h0 k t6 t7 (w64 (t8 + (1 : Int))) (out ++ ([(RC.sl (RC.s EK.u8 (PV.slv EK.u8 (List.getD t6 (Int.toNat t8) PV.nilp))))] : List PV))
          else none
        else none
      else none)
      else (some out)) := by kernel_rfl
/-- moneyer/cell.copied -/
def cell_copied (k : Nat) (l : List PV) : Option (List PV) :=
  cell_copied_h0 k l (((List.length l) : Nat) : Int) (0 : Int) ([] : List PV)
theorem cell_copied_q (k : Nat) (l : List PV) : cell_copied k l = (cell_copied_h0 k l (((List.length l) : Nat) : Int) (0 : Int) ([] : List PV)) := by kernel_rfl
theorem cell_copied_spec (l : List PV) (hp : cellsB l = true) : ∃ k, cell_copied k l = some l := by
  show Ev (fun k => cell_copied k l) _
  refine Ev.same (fun k => cell_copied_q k l) ?_
  have hlen := cellsB_len hp
  have gen : ∀ j i, i + j = l.length → Ev (fun f => cell_copied_h0 f l ((l.length : Nat) : Int) ((i : Nat) : Int) (l.take i)) l := by
    intro j
    induction j with
    | zero =>
      intro i hi
      refine Ev.done fun f => ?_
      rw [cell_copied_h0_q, bif_neg (by omega), List.take_of_length_le (by omega)]
    | succ j ih =>
      intro i hi
      refine Ev.step (fun f => ?_) (ih (i + 1) (by omega))
      obtain ⟨ys, e, hy⟩ := cellsB_at hp (i := i) (by omega)
      have t := take_getD (l := l) .nilp (show i < l.length by omega)
      rw [e] at t
      rw [cell_copied_h0_q, bif_pos (by omega), Int.toNat_natCast, e, if_pos ⟨by omega, rfl⟩, w64_id (by omega) (by omega)]
      show (if ys.length ≤ 140737488351232 then (if ((l.take i ++ [PV.sl .u8 ys]).length * 24 ≤ 70368744177664 ∧ (l.take i ++ [PV.sl .u8 ys]).length ≤ 70368744177664) then _ else none) else none) = _
      rw [if_pos (by omega), t, if_pos (by rw [List.length_take]; omega)]
      show cell_copied_h0 f l ((l.length : Nat) : Int) (((i : Nat) : Int) + 1) (l.take i ++ [PV.sl .u8 ys]) = _
      rw [t]
      rfl
  exact gen l.length 0 (by omega)

end
end Go.Proofs.Ytpgpagmnhikpiaa.M

namespace Go.Proofs.Ytpgpagmnhikpiaa.M
open Go
noncomputable section
/-- moneyer/cell.Push -/
def cell_Push (l : List PV) (b : List UInt8) : Option (Int × List PV) :=
  bif eqb (decide ((64 : Int) ≤ (((List.length l) : Nat) : Int))) false then (bif bif false then true else (decide ((3000 : Int) < (((List.length b) : Nat) : Int))) then (some ((3 : Int), ([] : List PV)))
      else (if (cellsB l) = true then
        if (List.length b) ≤ (140737488351232 : Nat) then
          if (((List.length (l ++ ([(RC.sl (RC.s EK.u8 b))] : List PV))) * (24 : Nat)) ≤ (70368744177664 : Nat)) ∧ ((List.length (l ++ ([(RC.sl (RC.s EK.u8 b))] : List PV))) ≤ (70368744177664 : Nat)) then
            some ((0 : Int), (l ++ ([(RC.sl (RC.s EK.u8 b))] : List PV)))
          else none
        else none
      else none))
    else (some ((3 : Int), ([] : List PV)))
theorem cell_Push_q (l : List PV) (b : List UInt8) : cell_Push l b = (bif eqb (decide ((64 : Int) ≤ (((List.length l) : Nat) : Int))) false then (bif bif false then true else (decide ((3000 : Int) < (((List.length b) : Nat) : Int))) then (some ((3 : Int), ([] : List PV)))
      else (if (cellsB l) = true then
        if (List.length b) ≤ (140737488351232 : Nat) then
          if (((List.length (l ++ ([(RC.sl (RC.s EK.u8 b))] : List PV))) * (24 : Nat)) ≤ (70368744177664 : Nat)) ∧ ((List.length (l ++ ([(RC.sl (RC.s EK.u8 b))] : List PV))) ≤ (70368744177664 : Nat)) then
            some ((0 : Int), (l ++ ([(RC.sl (RC.s EK.u8 b))] : List PV)))
          else none
        else none
      else none))
    else (some ((3 : Int), ([] : List PV)))) := by kernel_rfl
theorem cell_Push_spec (l : List PV) (b : List UInt8) (hp : cellsB l = true) : cell_Push l b = some (pushS l b) := by
  have hlen := cellsB_len hp
  rw [cell_Push_q]
  simp only [eqb_f, cond_false]
  unfold pushS
  by_cases h1 : 64 ≤ l.length
  · rw [decide_eq_true (by omega), Bool.not_true, cond_false, if_pos (.inl h1)]
  · rw [decide_eq_false (by omega), Bool.not_false, cond_true]
    by_cases h2 : 3000 < b.length
    · rw [bif_pos (by omega), if_pos (.inr h2)]
    · rw [bif_neg (by omega), if_pos hp, if_pos (by omega), if_pos (by simp; omega), if_neg (by omega)]
      rfl

end
end Go.Proofs.Ytpgpagmnhikpiaa.M

namespace Go.Proofs.Ytpgpagmnhikpiaa.M
open Go
noncomputable section
/-- the loop 0 of moneyer/cell.True -/
def cell_True_h0 : Nat → (List UInt8) → Int → Int → Option (Bool)
  | 0, _, _, _ => none
  | k + 1, t5, t6, t7 => bif decide (t7 < t6) then (if ((0 : Int) ≤ t7) ∧ (t7 < (((List.length t5) : Nat) : Int)) then
        bif !(decide ((List.getD t5 (Int.toNat t7) (0 : UInt8)) = (0 : UInt8))) then (some true)
          else (cell_True_h0 k t5 t6 (w64 (t7 + (1 : Int))))
      else none)
      else (some false)
theorem cell_True_h0_q (k : Nat) (t5 : List UInt8) (t6 : Int) (t7 : Int) : cell_True_h0 (k + 1) t5 t6 t7 =
  (bif decide (t7 < t6) then (if ((0 : Int) ≤ t7) ∧ (t7 < (((List.length t5) : Nat) : Int)) then
        bif !(decide ((List.getD t5 (Int.toNat t7) (0 : UInt8)) = (0 : UInt8))) then (some true)
          else (cell_True_h0 k t5 t6 (w64 (t7 + (1 : Int))))
      else none)
      else (some false)) := by kernel_rfl
/-- moneyer/cell.True -/
def cell_True (k : Nat) (b : List UInt8) : Option (Bool) :=
  cell_True_h0 k b (((List.length b) : Nat) : Int) (0 : Int)
theorem cell_True_q (k : Nat) (b : List UInt8) : cell_True k b = (cell_True_h0 k b (((List.length b) : Nat) : Int) (0 : Int)) := by kernel_rfl
theorem cell_True_spec (b : List UInt8) (hp : b.length ≤ 1152921504606846976) : ∃ k, cell_True k b = some (cellTrue b) := by
  show Ev (fun k => cell_True k b) _
  refine Ev.same (fun k => cell_True_q k b) ?_
  have gen : ∀ j i, i + j = b.length → Ev (fun f => cell_True_h0 f b ((b.length : Nat) : Int) ((i : Nat) : Int)) (cellTrue (b.drop i)) := by
    intro j
    induction j with
    | zero =>
      intro i hi
      refine Ev.done fun f => ?_
      rw [cell_True_h0_q, bif_neg (by omega), List.drop_eq_nil_of_le (by omega)]
      rfl
    | succ j ih =>
      intro i hi
      have e : b.drop i = List.getD b i 0 :: b.drop (i + 1) := by
        rw [List.drop_eq_getElem_cons (by omega)]
        simp [List.getD, show i < b.length by omega]
      by_cases h : List.getD b i 0 = 0
      · have e2 : cellTrue (b.drop i) = cellTrue (b.drop (i + 1)) := by rw [e, cellTrue, List.any_cons, decide_eq_false (fun q => q h)]; rfl
        rw [e2]
        refine Ev.step (fun f => ?_) (ih (i + 1) (by omega))
        rw [cell_True_h0_q, bif_pos (by omega), if_pos (by omega), Int.toNat_natCast, decide_eq_true h, w64_id (by omega) (by omega)]
        rfl
      · have e2 : cellTrue (b.drop i) = true := by rw [e, cellTrue, List.any_cons, decide_eq_true h]; rfl
        rw [e2]
        refine Ev.done fun f => ?_
        rw [cell_True_h0_q, bif_pos (by omega), if_pos (by omega), Int.toNat_natCast, decide_eq_false h]
        rfl
  have := gen b.length 0 (by omega)
  simpa using this

end
end Go.Proofs.Ytpgpagmnhikpiaa.M

namespace Go.Proofs.Ytpgpagmnhikpiaa.M
open Go
noncomputable section
/-- moneyer/cell.Pop -/
def cell_Pop (l : List PV) (n : Int) : Option (Int × List PV × List PV) :=
  bif decide (n < (0 : Int)) then (some ((2 : Int), ([] : List PV), ([] : List PV)))
    else (bif decide ((((List.length l) : Nat) : Int) < n) then (some ((6 : Int), ([] : List PV), ([] : List PV)))
      else (if ((0 : Int) ≤ (0 : Int)) ∧ (((0 : Int) ≤ (w64 ((((List.length l) : Nat) : Int) - n))) ∧ (((w64 ((((List.length l) : Nat) : Int) - n)) ≤ (w64 ((((List.length l) : Nat) : Int) - n))) ∧ ((w64 ((((List.length l) : Nat) : Int) - n)) ≤ (((List.length l) : Nat) : Int)))) then
        if (cellsB (List.take ((Int.toNat (w64 ((((List.length l) : Nat) : Int) - n))) - (Int.toNat (0 : Int))) (List.drop (Int.toNat (0 : Int)) l))) = true then
          if ((0 : Int) ≤ (w64 ((((List.length l) : Nat) : Int) - n))) ∧ (((w64 ((((List.length l) : Nat) : Int) - n)) ≤ (((List.length l) : Nat) : Int)) ∧ ((((List.length l) : Nat) : Int) ≤ (((List.length l) : Nat) : Int))) then
            if (cellsB (List.take ((Int.toNat (((List.length l) : Nat) : Int)) - (Int.toNat (w64 ((((List.length l) : Nat) : Int) - n)))) (List.drop (Int.toNat (w64 ((((List.length l) : Nat) : Int) - n))) l))) = true then
              some ((0 : Int), (List.take ((Int.toNat (w64 ((((List.length l) : Nat) : Int) - n))) - (Int.toNat (0 : Int))) (List.drop (Int.toNat (0 : Int)) l)), (List.take ((Int.toNat (((List.length l) : Nat) : Int)) - (Int.toNat (w64 ((((List.length l) : Nat) : Int) - n)))) (List.drop (Int.toNat (w64 ((((List.length l) : Nat) : Int) - n))) l)))
            else none
          else none
        else none
      else none))
theorem cell_Pop_q (l : List PV) (n : Int) : cell_Pop l n = (bif decide (n < (0 : Int)) then (some ((2 : Int), ([] : List PV), ([] : List PV)))
    else (bif decide ((((List.length l) : Nat) : Int) < n) then (some ((6 : Int), ([] : List PV), ([] : List PV)))
      else (if ((0 : Int) ≤ (0 : Int)) ∧ (((0 : Int) ≤ (w64 ((((List.length l) : Nat) : Int) - n))) ∧ (((w64 ((((List.length l) : Nat) : Int) - n)) ≤ (w64 ((((List.length l) : Nat) : Int) - n))) ∧ ((w64 ((((List.length l) : Nat) : Int) - n)) ≤ (((List.length l) : Nat) : Int)))) then
        if (cellsB (List.take ((Int.toNat (w64 ((((List.length l) : Nat) : Int) - n))) - (Int.toNat (0 : Int))) (List.drop (Int.toNat (0 : Int)) l))) = true then
          if ((0 : Int) ≤ (w64 ((((List.length l) : Nat) : Int) - n))) ∧ (((w64 ((((List.length l) : Nat) : Int) - n)) ≤ (((List.length l) : Nat) : Int)) ∧ ((((List.length l) : Nat) : Int) ≤ (((List.length l) : Nat) : Int))) then
            if (cellsB (List.take ((Int.toNat (((List.length l) : Nat) : Int)) - (Int.toNat (w64 ((((List.length l) : Nat) : Int) - n)))) (List.drop (Int.toNat (w64 ((((List.length l) : Nat) : Int) - n))) l))) = true then
              some ((0 : Int), (List.take ((Int.toNat (w64 ((((List.length l) : Nat) : Int) - n))) - (Int.toNat (0 : Int))) (List.drop (Int.toNat (0 : Int)) l)), (List.take ((Int.toNat (((List.length l) : Nat) : Int)) - (Int.toNat (w64 ((((List.length l) : Nat) : Int) - n)))) (List.drop (Int.toNat (w64 ((((List.length l) : Nat) : Int) - n))) l)))
            else none
          else none
        else none
      else none))) := by kernel_rfl
theorem cell_Pop_spec (l : List PV) (n : Int) (hp : cellsB l = true ∧ I64 n) : cell_Pop l n = some (popS l n) := by
  obtain ⟨hp, n1, n2⟩ := hp
  have hlen := cellsB_len hp
  rw [cell_Pop_q]
  unfold popS
  by_cases h1 : n < 0
  · rw [bif_pos h1, if_pos h1]
  · rw [bif_neg h1, if_neg h1]
    by_cases h2 : ((l.length : Nat) : Int) < n
    · rw [bif_pos h2, if_pos h2]
    · have e : w64 (((l.length : Nat) : Int) - n) = ((l.length - n.toNat : Nat) : Int) := by rw [w64_id (by omega) (by omega)]; omega
      have e2 : List.take (Int.toNat ((l.length : Nat) : Int) - Int.toNat ((l.length - n.toNat : Nat) : Int)) (List.drop (Int.toNat ((l.length - n.toNat : Nat) : Int)) l) = l.drop (l.length - n.toNat) := by
        rw [List.take_of_length_le]
        · rfl
        · simp
      rw [bif_neg h2, if_neg h2, e, take_to, Int.toNat_natCast, if_pos (by omega), if_pos (cellsB_take hp _), if_pos (by omega)]
      simp only [Int.toNat_natCast] at e2
      simp only [Int.toNat_natCast]
      rw [e2, if_pos (cellsB_drop hp _)]

end
end Go.Proofs.Ytpgpagmnhikpiaa.M

namespace Go.Proofs.Ytpgpagmnhikpiaa.M
open Go
noncomputable section
set_option maxRecDepth 100000
noncomputable def cell_Bytes_T : Tbl := []
noncomputable def cell_Bytes_C : CfgW := mkC Try.prog noG cell_Bytes_T 33 0 false
def cell_Bytes_lv : Nat → List Nat := fun i => bif Nat.beq i 0 then [0, 3, 4] else []
noncomputable abbrev cell_Bytes_b : Code := Try.f13.body.getD .skip
noncomputable abbrev cell_Bytes_r : List ResultVar := Try.f13.results.toList
def cell_Bytes_hs : List Nat := []

def cell_Bytes_enc (r : List UInt8) : CallOut := ⟨.o 60000, [(60000, .row (.s .u8 r) false)], true, []⟩
def cell_Bytes_s0 (n : Int) (k_ : UInt64) (b : List UInt8) : St := ⟨[(0, .pv (.sc .i n)), (3, .o 60000), (4, .pv (.sc .u64 k_))], [(60000, .row (.s .u8 b) false)]⟩
theorem cell_Bytes_g0 (n : Int) (k_ : UInt64) (b : List UInt8) (Q : CallOut → Prop) : headRound cell_Bytes_C cell_Bytes_lv [true, true, false, true, false] cell_Bytes_b (cell_Bytes_s0 n k_ b) (fnK cell_Bytes_C cell_Bytes_r cell_Bytes_hs Q) =
    (condP (eqb (!(decide (n = (0 : Int)))) true) (condP (bif true then (decide (k_ < (8 : UInt64))) else false) (((((List.length (b ++ ([(UInt8.ofInt (shr_i n (UInt64.toNat ((8 : UInt64) * k_))))] : List UInt8))) * (1 : Nat)) ≤ (70368744177664 : Nat)) ∧ ((List.length (b ++ ([(UInt8.ofInt (shr_i n (UInt64.toNat ((8 : UInt64) * k_))))] : List UInt8))) ≤ (70368744177664 : Nat))) ∧ (condP (eqb (decide ((-(128 : Int)) ≤ (shr_i n (UInt64.toNat ((8 : UInt64) * k_))))) true) (condP (bif true then (decide ((shr_i n (UInt64.toNat ((8 : UInt64) * k_))) ≤ (127 : Int))) else false) (Q (cell_Bytes_enc (b ++ ([(UInt8.ofInt (shr_i n (UInt64.toNat ((8 : UInt64) * k_))))] : List UInt8)))) (headP cell_Bytes_C cell_Bytes_lv [true, true, false, true, false] cell_Bytes_b (cell_Bytes_s0 n (k_ + (1 : UInt64)) (b ++ ([(UInt8.ofInt (shr_i n (UInt64.toNat ((8 : UInt64) * k_))))] : List UInt8))) (fnK cell_Bytes_C cell_Bytes_r cell_Bytes_hs Q))) (headP cell_Bytes_C cell_Bytes_lv [true, true, false, true, false] cell_Bytes_b (cell_Bytes_s0 n (k_ + (1 : UInt64)) (b ++ ([(UInt8.ofInt (shr_i n (UInt64.toNat ((8 : UInt64) * k_))))] : List UInt8))) (fnK cell_Bytes_C cell_Bytes_r cell_Bytes_hs Q)))) (Q (cell_Bytes_enc b))) (Q (cell_Bytes_enc b))) := by kernel_rfl
theorem cell_Bytes_k0 {r : List UInt8} {Q : CallOut → Prop} (hQ : Q (cell_Bytes_enc r)) : ∀ k : Nat, (∀ (n : Int) (k_ : UInt64) (b : List UInt8), cell_Bytes_h0 k n k_ b = some r → headP cell_Bytes_C cell_Bytes_lv [true, true, false, true, false] cell_Bytes_b (cell_Bytes_s0 n k_ b) (fnK cell_Bytes_C cell_Bytes_r cell_Bytes_hs Q))
  | 0 => fun _ _ _ h => no_ok h
  | k + 1 => fun n k_ b h => headP_step (Eq.mpr (cell_Bytes_g0 n k_ b Q) (have h := (cell_Bytes_h0_q k n k_ b).symm.trans h; cond_ok h (fun h => cond_ok h (fun h => ite_ok h fun hc0 h => cond_ok h (fun h => cond_ok h (fun h => ret_ok (Q := Q) (e := cell_Bytes_enc) h hQ) (fun h => (cell_Bytes_k0 hQ k) _ _ _ h)) (fun h => (cell_Bytes_k0 hQ k) _ _ _ h)) (fun h => ret_ok (Q := Q) (e := cell_Bytes_enc) h hQ)) (fun h => ret_ok (Q := Q) (e := cell_Bytes_enc) h hQ)))
theorem cell_Bytes_e (n : Int) (Q : CallOut → Prop) : evalFnP cell_Bytes_C cell_Bytes_lv cell_Bytes_r cell_Bytes_hs cell_Bytes_b [.pv (.sc .i n)] [] Q =
    (headP cell_Bytes_C cell_Bytes_lv [true, true, false, true, false] cell_Bytes_b (cell_Bytes_s0 n (0 : UInt64) ([] : List UInt8)) (fnK cell_Bytes_C cell_Bytes_r cell_Bytes_hs Q)) := by kernel_rfl
theorem cell_Bytes_w {k : Nat} (n : Int) {r} {Q : CallOut → Prop} (h : cell_Bytes k n = some r) (hQ : Q (cell_Bytes_enc r)) : evalFnP cell_Bytes_C cell_Bytes_lv cell_Bytes_r cell_Bytes_hs cell_Bytes_b [.pv (.sc .i n)] [] Q :=
  Eq.mpr (cell_Bytes_e n Q) (have h := (cell_Bytes_q k n).symm.trans h; (cell_Bytes_k0 hQ _) _ _ _ h)
def cell_Bytes_c : Ans
  | [.pv (.sc .i n)], [] => some (some (I64 n), cell_Bytes_enc (numB n))
  | _, _ => none
theorem cell_Bytes_tok : TblOK Try.prog noG cell_Bytes_T := .nil
theorem cell_Bytes_ok : FnOK Try.prog noG 13 (unW cell_Bytes_c) := by
  refine FnOK.ofC (T := cell_Bytes_T) (nt := 33) (np := 0) (nf := false) (hs := cell_Bytes_hs) (fn := Try.f13) (body := cell_Bytes_b) cell_Bytes_tok (by kernel_rfl) (by kernel_rfl) (by kernel_rfl) (by kernel_rfl) (c := cell_Bytes_c) (lv := cell_Bytes_lv) ?_
  intro xs mem p out h hp
  unfold cell_Bytes_c at h
  split at h
  · cases h
    obtain ⟨k, hk⟩ := cell_Bytes_spec _ hp
    exact cell_Bytes_w _ hk rfl
  · cases h
end
end Go.Proofs.Ytpgpagmnhikpiaa.M

namespace Go.Proofs.Ytpgpagmnhikpiaa.M
open Go
noncomputable section
set_option maxRecDepth 100000
noncomputable def cell_Number_T : Tbl := [(13, [], cell_Bytes_c), (28, [], bytes_Equal_c)]
noncomputable def cell_Number_C : CfgW := mkC Try.prog noG cell_Number_T 48 0 false
def cell_Number_lv : Nat → List Nat := fun i => bif Nat.beq i 0 then [0, 4, 12, 13, 14] else []
noncomputable abbrev cell_Number_b : Code := Try.f12.body.getD .skip
noncomputable abbrev cell_Number_r : List ResultVar := Try.f12.results.toList
def cell_Number_hs : List Nat := []

def cell_Number_enc (r : Int × Int) : CallOut := ⟨.tup [.pv (.sc .i r.1), .pv (.sc .i r.2)], [], true, []⟩
def cell_Number_s0 (b : List UInt8) (n : UInt64) (t12 : List UInt8) (t13 : Int) (t14 : Int) : St := ⟨[(0, .pv (.sl .u8 b)), (4, .pv (.sc .u64 n)), (12, .pv (.sl .u8 t12)), (13, .pv (.sc .i t13)), (14, .pv (.sc .i t14))], []⟩
theorem cell_Number_g0 (b : List UInt8) (n : UInt64) (t12 : List UInt8) (t13 : Int) (t14 : Int) (Q : CallOut → Prop) : headRound cell_Number_C cell_Number_lv [true, true, true, false, true, false] cell_Number_b (cell_Number_s0 b n t12 t13 t14) (fnK cell_Number_C cell_Number_r cell_Number_hs Q) =
    (condP (decide (t14 < t13)) ((((0 : Int) ≤ t14) ∧ (t14 < (((List.length t12) : Nat) : Int))) ∧ (headP cell_Number_C cell_Number_lv [true, true, true, false, true, false] cell_Number_b (cell_Number_s0 b (n ||| (shl_u64 (UInt8.toUInt64 (List.getD t12 (Int.toNat t14) (0 : UInt8))) (UInt64.toNat ((8 : UInt64) * (UInt64.ofInt t14))))) t12 t13 (w64 (t14 + (1 : Int)))) (fnK cell_Number_C cell_Number_r cell_Number_hs Q))) (condP (decide ((((List.length b) : Nat) : Int) = (0 : Int))) ((I64 (0 : Int)) ∧ (condP (!(decide ((numB (0 : Int)) = b))) (Q (cell_Number_enc ((0 : Int), (5 : Int)))) (Q (cell_Number_enc ((0 : Int), (0 : Int)))))) ((I64 (shr_i (w64 (((UInt64.toNat (shl_u64 n (UInt64.toNat ((64 : UInt64) - ((8 : UInt64) * (UInt64.ofInt (((List.length b) : Nat) : Int))))))) : Nat) : Int)) (UInt64.toNat ((64 : UInt64) - ((8 : UInt64) * (UInt64.ofInt (((List.length b) : Nat) : Int))))))) ∧ (condP (!(decide ((numB (shr_i (w64 (((UInt64.toNat (shl_u64 n (UInt64.toNat ((64 : UInt64) - ((8 : UInt64) * (UInt64.ofInt (((List.length b) : Nat) : Int))))))) : Nat) : Int)) (UInt64.toNat ((64 : UInt64) - ((8 : UInt64) * (UInt64.ofInt (((List.length b) : Nat) : Int))))))) = b))) (Q (cell_Number_enc ((0 : Int), (5 : Int)))) (Q (cell_Number_enc ((shr_i (w64 (((UInt64.toNat (shl_u64 n (UInt64.toNat ((64 : UInt64) - ((8 : UInt64) * (UInt64.ofInt (((List.length b) : Nat) : Int))))))) : Nat) : Int)) (UInt64.toNat ((64 : UInt64) - ((8 : UInt64) * (UInt64.ofInt (((List.length b) : Nat) : Int)))))), (0 : Int)))))))) := by kernel_rfl
theorem cell_Number_k0 {r : Int × Int} {Q : CallOut → Prop} (hQ : Q (cell_Number_enc r)) : ∀ k : Nat, (∀ (b : List UInt8) (n : UInt64) (t12 : List UInt8) (t13 : Int) (t14 : Int), cell_Number_h0 k b n t12 t13 t14 = some r → headP cell_Number_C cell_Number_lv [true, true, true, false, true, false] cell_Number_b (cell_Number_s0 b n t12 t13 t14) (fnK cell_Number_C cell_Number_r cell_Number_hs Q))
  | 0 => fun _ _ _ _ _ h => no_ok h
  | k + 1 => fun b n t12 t13 t14 h => headP_step (Eq.mpr (cell_Number_g0 b n t12 t13 t14 Q) (have h := (cell_Number_h0_q k b n t12 t13 t14).symm.trans h; cond_ok h (fun h => ite_ok h fun hc0 h => (cell_Number_k0 hQ k) _ _ _ _ _ h) (fun h => cond_ok h (fun h => ⟨by decide +kernel, cond_ok h (fun h => ret_ok (Q := Q) (e := cell_Number_enc) h hQ) (fun h => ret_ok (Q := Q) (e := cell_Number_enc) h hQ)⟩) (fun h => ite_ok h fun hc0 h => cond_ok h (fun h => ret_ok (Q := Q) (e := cell_Number_enc) h hQ) (fun h => ret_ok (Q := Q) (e := cell_Number_enc) h hQ)))))
theorem cell_Number_e (b : List UInt8) (Q : CallOut → Prop) : evalFnP cell_Number_C cell_Number_lv cell_Number_r cell_Number_hs cell_Number_b [.pv (.sl .u8 b)] [] Q =
    (condP (decide ((8 : Int) < (((List.length b) : Nat) : Int))) (Q (cell_Number_enc ((0 : Int), (5 : Int)))) (headP cell_Number_C cell_Number_lv [true, true, true, false, true, false] cell_Number_b (cell_Number_s0 b (0 : UInt64) b (((List.length b) : Nat) : Int) (0 : Int)) (fnK cell_Number_C cell_Number_r cell_Number_hs Q))) := by kernel_rfl
theorem cell_Number_w {k : Nat} (b : List UInt8) {r} {Q : CallOut → Prop} (h : cell_Number k b = some r) (hQ : Q (cell_Number_enc r)) : evalFnP cell_Number_C cell_Number_lv cell_Number_r cell_Number_hs cell_Number_b [.pv (.sl .u8 b)] [] Q :=
  Eq.mpr (cell_Number_e b Q) (have h := (cell_Number_q k b).symm.trans h; cond_ok h (fun h => ret_ok (Q := Q) (e := cell_Number_enc) h hQ) (fun h => (cell_Number_k0 hQ _) _ _ _ _ _ h))
def cell_Number_c : Ans
  | [.pv (.sl .u8 b)], [] => some (none, cell_Number_enc (numOf b))
  | _, _ => none
theorem cell_Number_tok : TblOK Try.prog noG cell_Number_T := .cons ⟨by kernel_rfl, cell_Bytes_ok⟩ (.cons ⟨by kernel_rfl, bytes_Equal_ok⟩ (.nil))
theorem cell_Number_ok : FnOK Try.prog noG 12 (unW cell_Number_c) := by
  refine FnOK.ofC (T := cell_Number_T) (nt := 48) (np := 0) (nf := false) (hs := cell_Number_hs) (fn := Try.f12) (body := cell_Number_b) cell_Number_tok (by kernel_rfl) (by kernel_rfl) (by kernel_rfl) (by kernel_rfl) (c := cell_Number_c) (lv := cell_Number_lv) ?_
  intro xs mem p out h hp
  unfold cell_Number_c at h
  split at h
  · cases h
    obtain ⟨k, hk⟩ := cell_Number_spec _
    exact cell_Number_w _ hk rfl
  · cases h
end
end Go.Proofs.Ytpgpagmnhikpiaa.M

namespace Go.Proofs.Ytpgpagmnhikpiaa.M
open Go
noncomputable section
set_option maxRecDepth 100000
noncomputable def cell_size_T : Tbl := []
noncomputable def cell_size_C : CfgW := mkC Try.prog noG cell_size_T 10 0 false
def cell_size_lv : Nat → List Nat := fun i => []
noncomputable abbrev cell_size_b : Code := Try.f35.body.getD .skip
noncomputable abbrev cell_size_r : List ResultVar := Try.f35.results.toList
def cell_size_hs : List Nat := []

def cell_size_enc (r : UInt64) : CallOut := ⟨.pv (.sc .u64 r), [], true, []⟩
theorem cell_size_e (a : Int) (Q : CallOut → Prop) : evalFnP cell_size_C cell_size_lv cell_size_r cell_size_hs cell_size_b [.pv (.sc .i a)] [] Q =
    (condP (decide (a < (0 : Int))) (Q (cell_size_enc ((0 : UInt64) - (UInt64.ofInt a)))) (Q (cell_size_enc (UInt64.ofInt a)))) := by kernel_rfl
theorem cell_size_w (a : Int) {Q : CallOut → Prop} (h : Q (cell_size_enc (cell_size a))) : evalFnP cell_size_C cell_size_lv cell_size_r cell_size_hs cell_size_b [.pv (.sc .i a)] [] Q :=
  Eq.mpr (cell_size_e a Q) (have h := Eq.mp (congrArg (fun r => Q (cell_size_enc r)) (cell_size_q a)) h; cond_ok2 (Q := fun r => Q (cell_size_enc r)) h (fun h => h) (fun h => h))
def cell_size_c : Ans
  | [.pv (.sc .i a)], [] => some (none, cell_size_enc (cell_size a))
  | _, _ => none
theorem cell_size_tok : TblOK Try.prog noG cell_size_T := .nil
theorem cell_size_ok : FnOK Try.prog noG 35 (unW cell_size_c) := by
  refine FnOK.ofC (T := cell_size_T) (nt := 10) (np := 0) (nf := false) (hs := cell_size_hs) (fn := Try.f35) (body := cell_size_b) cell_size_tok (by kernel_rfl) (by kernel_rfl) (by kernel_rfl) (by kernel_rfl) (c := cell_size_c) (lv := cell_size_lv) ?_
  intro xs mem p out h hp
  unfold cell_size_c at h
  split at h
  · cases h
    exact cell_size_w _ rfl
  · cases h
end
end Go.Proofs.Ytpgpagmnhikpiaa.M

namespace Go.Proofs.Ytpgpagmnhikpiaa.M
open Go
noncomputable section
set_option maxRecDepth 100000
noncomputable def cell_product_T : Tbl := [(35, [], cell_size_c), (34, [], bits_Mul64_c)]
noncomputable def cell_product_C : CfgW := mkC Try.prog noG cell_product_T 44 0 false
def cell_product_lv : Nat → List Nat := fun i => []
noncomputable abbrev cell_product_b : Code := Try.f27.body.getD .skip
noncomputable abbrev cell_product_r : List ResultVar := Try.f27.results.toList
def cell_product_hs : List Nat := []

def cell_product_enc (r : Int × Int) : CallOut := ⟨.tup [.pv (.sc .i r.1), .pv (.sc .i r.2)], [], true, []⟩
theorem cell_product_e (a : Int) (b : Int) (Q : CallOut → Prop) : evalFnP cell_product_C cell_product_lv cell_product_r cell_product_hs cell_product_b [.pv (.sc .i a), .pv (.sc .i b)] [] Q =
    (condP (eqb (!(decide ((Prod.fst ((mulHi (cell_size a) (cell_size b)), (mulLo (cell_size a) (cell_size b)))) = (0 : UInt64)))) false) (condP (eqb (bif false then true else (decide ((9223372036854775808 : UInt64) < (Prod.snd ((mulHi (cell_size a) (cell_size b)), (mulLo (cell_size a) (cell_size b))))))) false) (condP (eqb (decide ((Prod.snd ((mulHi (cell_size a) (cell_size b)), (mulLo (cell_size a) (cell_size b)))) = (9223372036854775808 : UInt64))) true) (condP (bif false then true else (bif true then (!(!(decide ((decide (a < (0 : Int))) = (decide (b < (0 : Int))))))) else false)) (Q (cell_product_enc ((0 : Int), (3 : Int)))) (condP (!(decide ((decide (a < (0 : Int))) = (decide (b < (0 : Int)))))) (Q (cell_product_enc ((w64 (((UInt64.toNat ((0 : UInt64) - (Prod.snd ((mulHi (cell_size a) (cell_size b)), (mulLo (cell_size a) (cell_size b)))))) : Nat) : Int)), (0 : Int)))) (Q (cell_product_enc ((w64 (((UInt64.toNat (Prod.snd ((mulHi (cell_size a) (cell_size b)), (mulLo (cell_size a) (cell_size b))))) : Nat) : Int)), (0 : Int)))))) (condP (!(decide ((decide (a < (0 : Int))) = (decide (b < (0 : Int)))))) (Q (cell_product_enc ((w64 (((UInt64.toNat ((0 : UInt64) - (Prod.snd ((mulHi (cell_size a) (cell_size b)), (mulLo (cell_size a) (cell_size b)))))) : Nat) : Int)), (0 : Int)))) (Q (cell_product_enc ((w64 (((UInt64.toNat (Prod.snd ((mulHi (cell_size a) (cell_size b)), (mulLo (cell_size a) (cell_size b))))) : Nat) : Int)), (0 : Int)))))) (Q (cell_product_enc ((0 : Int), (3 : Int))))) (Q (cell_product_enc ((0 : Int), (3 : Int))))) := by kernel_rfl
theorem cell_product_w (a : Int) (b : Int) {Q : CallOut → Prop} (h : Q (cell_product_enc (cell_product a b))) : evalFnP cell_product_C cell_product_lv cell_product_r cell_product_hs cell_product_b [.pv (.sc .i a), .pv (.sc .i b)] [] Q :=
  Eq.mpr (cell_product_e a b Q) (have h := Eq.mp (congrArg (fun r => Q (cell_product_enc r)) (cell_product_q a b)) h; cond_ok2 (Q := fun r => Q (cell_product_enc r)) h (fun h => cond_ok2 (Q := fun r => Q (cell_product_enc r)) h (fun h => cond_ok2 (Q := fun r => Q (cell_product_enc r)) h (fun h => cond_ok2 (Q := fun r => Q (cell_product_enc r)) h (fun h => h) (fun h => cond_ok2 (Q := fun r => Q (cell_product_enc r)) h (fun h => h) (fun h => h))) (fun h => cond_ok2 (Q := fun r => Q (cell_product_enc r)) h (fun h => h) (fun h => h))) (fun h => h)) (fun h => h))
def cell_product_c : Ans
  | [.pv (.sc .i a), .pv (.sc .i b)], [] => some (some (I64 a ∧ I64 b), cell_product_enc (ckI (a * b)))
  | _, _ => none
theorem cell_product_tok : TblOK Try.prog noG cell_product_T := .cons ⟨by kernel_rfl, cell_size_ok⟩ (.cons ⟨by kernel_rfl, bits_Mul64_ok⟩ (.nil))
theorem cell_product_ok : FnOK Try.prog noG 27 (unW cell_product_c) := by
  refine FnOK.ofC (T := cell_product_T) (nt := 44) (np := 0) (nf := false) (hs := cell_product_hs) (fn := Try.f27) (body := cell_product_b) cell_product_tok (by kernel_rfl) (by kernel_rfl) (by kernel_rfl) (by kernel_rfl) (c := cell_product_c) (lv := cell_product_lv) ?_
  intro xs mem p out h hp
  unfold cell_product_c at h
  split at h
  · cases h
    exact cell_product_w _ _ (congrArg cell_product_enc (cell_product_spec _ _ hp))
  · cases h
end
end Go.Proofs.Ytpgpagmnhikpiaa.M

namespace Go.Proofs.Ytpgpagmnhikpiaa.M
open Go
noncomputable section
set_option maxRecDepth 100000
noncomputable def cell_Two_T : Tbl := [(27, [], cell_product_c)]
noncomputable def cell_Two_C : CfgW := mkC Try.prog noG cell_Two_T 47 0 false
def cell_Two_lv : Nat → List Nat := fun i => []
noncomputable abbrev cell_Two_b : Code := Try.f9.body.getD .skip
noncomputable abbrev cell_Two_r : List ResultVar := Try.f9.results.toList
def cell_Two_hs : List Nat := []

def cell_Two_enc (r : Int × Int) : CallOut := ⟨.tup [.pv (.sc .i r.1), .pv (.sc .i r.2)], [], true, []⟩
theorem cell_Two_e (op : UInt8) (a : Int) (b : Int) (Q : CallOut → Prop) : evalFnP cell_Two_C cell_Two_lv cell_Two_r cell_Two_hs cell_Two_b [.pv (.sc .u8 op), .pv (.sc .i a), .pv (.sc .i b)] [] Q =
    (condP (decide (op = (13 : UInt8))) (condP (decide ((decide ((w64 (a + b)) < a)) = (decide (b < (0 : Int))))) (Q (cell_Two_enc ((w64 (a + b)), (0 : Int)))) (Q (cell_Two_enc ((0 : Int), (3 : Int))))) (condP (decide (op = (14 : UInt8))) (condP (decide ((decide (a < (w64 (a - b)))) = (decide (b < (0 : Int))))) (Q (cell_Two_enc ((w64 (a - b)), (0 : Int)))) (Q (cell_Two_enc ((0 : Int), (3 : Int))))) (condP (decide (op = (15 : UInt8))) (((I64 a) ∧ (I64 b)) ∧ (Q (cell_Two_enc ((Prod.fst (ckI (a * b))), (Prod.snd (ckI (a * b))))))) (condP (decide (op = (16 : UInt8))) (condP (decide (a < b)) (Q (cell_Two_enc ((1 : Int), (0 : Int)))) (Q (cell_Two_enc ((0 : Int), (0 : Int))))) (Q (cell_Two_enc ((0 : Int), (2 : Int)))))))) := by kernel_rfl
theorem cell_Two_w (op : UInt8) (a : Int) (b : Int) {r} {Q : CallOut → Prop} (h : cell_Two op a b = some r) (hQ : Q (cell_Two_enc r)) : evalFnP cell_Two_C cell_Two_lv cell_Two_r cell_Two_hs cell_Two_b [.pv (.sc .u8 op), .pv (.sc .i a), .pv (.sc .i b)] [] Q :=
  Eq.mpr (cell_Two_e op a b Q) (have h := (cell_Two_q op a b).symm.trans h; cond_ok h (fun h => cond_ok h (fun h => ret_ok (Q := Q) (e := cell_Two_enc) h hQ) (fun h => ret_ok (Q := Q) (e := cell_Two_enc) h hQ)) (fun h => cond_ok h (fun h => cond_ok h (fun h => ret_ok (Q := Q) (e := cell_Two_enc) h hQ) (fun h => ret_ok (Q := Q) (e := cell_Two_enc) h hQ)) (fun h => cond_ok h (fun h => ite_ok h fun hc0 h => ret_ok (Q := Q) (e := cell_Two_enc) h hQ) (fun h => cond_ok h (fun h => cond_ok h (fun h => ret_ok (Q := Q) (e := cell_Two_enc) h hQ) (fun h => ret_ok (Q := Q) (e := cell_Two_enc) h hQ)) (fun h => ret_ok (Q := Q) (e := cell_Two_enc) h hQ)))))
def cell_Two_c : Ans
  | [.pv (.sc .u8 op), .pv (.sc .i a), .pv (.sc .i b)], [] => some (some (I64 a ∧ I64 b), cell_Two_enc (twoS op a b))
  | _, _ => none
theorem cell_Two_tok : TblOK Try.prog noG cell_Two_T := .cons ⟨by kernel_rfl, cell_product_ok⟩ (.nil)
theorem cell_Two_ok : FnOK Try.prog noG 9 (unW cell_Two_c) := by
  refine FnOK.ofC (T := cell_Two_T) (nt := 47) (np := 0) (nf := false) (hs := cell_Two_hs) (fn := Try.f9) (body := cell_Two_b) cell_Two_tok (by kernel_rfl) (by kernel_rfl) (by kernel_rfl) (by kernel_rfl) (c := cell_Two_c) (lv := cell_Two_lv) ?_
  intro xs mem p out h hp
  unfold cell_Two_c at h
  split at h
  · cases h
    exact cell_Two_w _ _ _ (cell_Two_spec _ _ _ hp) rfl
  · cases h
end
end Go.Proofs.Ytpgpagmnhikpiaa.M

namespace Go.Proofs.Ytpgpagmnhikpiaa.M
open Go
noncomputable section
set_option maxRecDepth 100000
noncomputable def cell_copied_T : Tbl := [(31, [], bytes_Clone_c)]
noncomputable def cell_copied_C : CfgW := mkC Try.prog noG cell_copied_T 19 0 true
def cell_copied_lv : Nat → List Nat := fun i => bif Nat.beq i 0 then [3, 6, 7, 8] else []
noncomputable abbrev cell_copied_b : Code := Try.f30.body.getD .skip
noncomputable abbrev cell_copied_r : List ResultVar := Try.f30.results.toList
def cell_copied_hs : List Nat := []

def cell_copied_enc (r : List PV) : CallOut := ⟨.o 60000, [(60000, .row (.p 1 r) false)], false, []⟩
def cell_copied_s0 (t6 : List PV) (t7 : Int) (t8 : Int) (out : List PV) : St := ⟨[(3, .o 60000), (6, .pv (.sp 1 t6)), (7, .pv (.sc .i t7)), (8, .pv (.sc .i t8))], [(60000, .row (.p 1 out) false)]⟩
theorem cell_copied_g0 (t6 : List PV) (t7 : Int) (t8 : Int) (out : List PV) (Q : CallOut → Prop) : headRound cell_copied_C cell_copied_lv [true, true, false, true, false] cell_copied_b (cell_copied_s0 t6 t7 t8 out) (fnK cell_copied_C cell_copied_r cell_copied_hs Q) =
    (condP (decide (t8 < t7)) (((((0 : Int) ≤ t8) ∧ (t8 < (((List.length t6) : Nat) : Int))) ∧ ((TY.chk (TY.sl EK.u8) (List.getD t6 (Int.toNat t8) PV.nilp)) = true)) ∧ (((List.length (PV.slv EK.u8 (List.getD t6 (Int.toNat t8) PV.nilp))) ≤ (140737488351232 : Nat)) ∧ (((((List.length (out ++ ([(RC.sl (RC.s EK.u8 (PV.slv EK.u8 (List.getD t6 (Int.toNat t8) PV.nilp))))] : List PV))) * (24 : Nat)) ≤ (70368744177664 : Nat)) ∧ ((List.length (out ++ ([(RC.sl (RC.s EK.u8 (PV.slv EK.u8 (List.getD t6 (Int.toNat t8) PV.nilp))))] : List PV))) ≤ (70368744177664 : Nat))) ∧ (headP cell_copied_C cell_copied_lv [true, true, false, true, false] cell_copied_b (cell_copied_s0 t6 t7 (w64 (t8 + (1 : Int))) (out ++ ([(RC.sl (RC.s EK.u8 (PV.slv EK.u8 (List.getD t6 (Int.toNat t8) PV.nilp))))] : List PV))) (fnK cell_copied_C cell_copied_r cell_copied_hs Q))))) (Q (cell_copied_enc out))) := by kernel_rfl
theorem cell_copied_k0 {r : List PV} {Q : CallOut → Prop} (hQ : Q (cell_copied_enc r)) : ∀ k : Nat, (∀ (t6 : List PV) (t7 : Int) (t8 : Int) (out : List PV), cell_copied_h0 k t6 t7 t8 out = some r → headP cell_copied_C cell_copied_lv [true, true, false, true, false] cell_copied_b (cell_copied_s0 t6 t7 t8 out) (fnK cell_copied_C cell_copied_r cell_copied_hs Q))
  | 0 => fun _ _ _ _ h => no_ok h
  | k + 1 => fun t6 t7 t8 out h => headP_step (Eq.mpr (cell_copied_g0 t6 t7 t8 out Q) (have h := (cell_copied_h0_q k t6 t7 t8 out).symm.trans h; cond_ok h (fun h => ite_ok h fun hc0 h => ite_ok h fun hc1 h => ite_ok h fun hc2 h => (cell_copied_k0 hQ k) _ _ _ _ h) (fun h => ret_ok (Q := Q) (e := cell_copied_enc) h hQ)))
theorem cell_copied_e (l : List PV) (Q : CallOut → Prop) : evalFnP cell_copied_C cell_copied_lv cell_copied_r cell_copied_hs cell_copied_b [.pv (.sp 1 l)] [] Q =
    (headP cell_copied_C cell_copied_lv [true, true, false, true, false] cell_copied_b (cell_copied_s0 l (((List.length l) : Nat) : Int) (0 : Int) ([] : List PV)) (fnK cell_copied_C cell_copied_r cell_copied_hs Q)) := by kernel_rfl
theorem cell_copied_w {k : Nat} (l : List PV) {r} {Q : CallOut → Prop} (h : cell_copied k l = some r) (hQ : Q (cell_copied_enc r)) : evalFnP cell_copied_C cell_copied_lv cell_copied_r cell_copied_hs cell_copied_b [.pv (.sp 1 l)] [] Q :=
  Eq.mpr (cell_copied_e l Q) (have h := (cell_copied_q k l).symm.trans h; (cell_copied_k0 hQ _) _ _ _ _ h)
def cell_copied_c : Ans
  | [.pv (.sp 1 l)], [] => some (some (cellsB l = true), cell_copied_enc (l))
  | _, _ => none
theorem cell_copied_tok : TblOK Try.prog noG cell_copied_T := .cons ⟨by kernel_rfl, bytes_Clone_ok⟩ (.nil)
theorem cell_copied_ok : FnOK Try.prog noG 30 (unW cell_copied_c) := by
  refine FnOK.ofC (T := cell_copied_T) (nt := 19) (np := 0) (nf := true) (hs := cell_copied_hs) (fn := Try.f30) (body := cell_copied_b) cell_copied_tok (by kernel_rfl) (by kernel_rfl) (by kernel_rfl) (by kernel_rfl) (c := cell_copied_c) (lv := cell_copied_lv) ?_
  intro xs mem p out h hp
  unfold cell_copied_c at h
  split at h
  · cases h
    obtain ⟨k, hk⟩ := cell_copied_spec _ hp
    exact cell_copied_w _ hk rfl
  · cases h
end
end Go.Proofs.Ytpgpagmnhikpiaa.M

namespace Go.Proofs.Ytpgpagmnhikpiaa.M
open Go
noncomputable section
set_option maxRecDepth 100000
noncomputable def cell_Push_T : Tbl := [(30, [false], cell_copied_c), (31, [], bytes_Clone_c)]
noncomputable def cell_Push_C : CfgW := mkC Try.prog noG cell_Push_T 20 0 true
def cell_Push_lv : Nat → List Nat := fun i => []
noncomputable abbrev cell_Push_b : Code := Try.f22.body.getD .skip
noncomputable abbrev cell_Push_r : List ResultVar := Try.f22.results.toList
def cell_Push_hs : List Nat := []

def cell_Push_enc (r : Int × List PV) : CallOut := ⟨.tup [.o 60000, .pv (.sc .i r.1)], [(60000, .row (.p 1 r.2) false)], false, []⟩
theorem cell_Push_e (l : List PV) (b : List UInt8) (Q : CallOut → Prop) : evalFnP cell_Push_C cell_Push_lv cell_Push_r cell_Push_hs cell_Push_b [.pv (.sp 1 l), .pv (.sl .u8 b)] [] Q =
    (condP (eqb (decide ((64 : Int) ≤ (((List.length l) : Nat) : Int))) false) (condP (bif false then true else (decide ((3000 : Int) < (((List.length b) : Nat) : Int)))) (Q (cell_Push_enc ((3 : Int), ([] : List PV)))) (((cellsB l) = true) ∧ (((List.length b) ≤ (140737488351232 : Nat)) ∧ (((((List.length (l ++ ([(RC.sl (RC.s EK.u8 b))] : List PV))) * (24 : Nat)) ≤ (70368744177664 : Nat)) ∧ ((List.length (l ++ ([(RC.sl (RC.s EK.u8 b))] : List PV))) ≤ (70368744177664 : Nat))) ∧ (Q (cell_Push_enc ((0 : Int), (l ++ ([(RC.sl (RC.s EK.u8 b))] : List PV))))))))) (Q (cell_Push_enc ((3 : Int), ([] : List PV))))) := by kernel_rfl
theorem cell_Push_w (l : List PV) (b : List UInt8) {r} {Q : CallOut → Prop} (h : cell_Push l b = some r) (hQ : Q (cell_Push_enc r)) : evalFnP cell_Push_C cell_Push_lv cell_Push_r cell_Push_hs cell_Push_b [.pv (.sp 1 l), .pv (.sl .u8 b)] [] Q :=
  Eq.mpr (cell_Push_e l b Q) (have h := (cell_Push_q l b).symm.trans h; cond_ok h (fun h => cond_ok h (fun h => ret_ok (Q := Q) (e := cell_Push_enc) h hQ) (fun h => ite_ok h fun hc0 h => ite_ok h fun hc1 h => ite_ok h fun hc2 h => ret_ok (Q := Q) (e := cell_Push_enc) h hQ)) (fun h => ret_ok (Q := Q) (e := cell_Push_enc) h hQ))
def cell_Push_c : Ans
  | [.pv (.sp 1 l), .pv (.sl .u8 b)], [] => some (some (cellsB l = true), cell_Push_enc (pushS l b))
  | _, _ => none
theorem cell_Push_tok : TblOK Try.prog noG cell_Push_T := .cons ⟨by kernel_rfl, cell_copied_ok⟩ (.cons ⟨by kernel_rfl, bytes_Clone_ok⟩ (.nil))
theorem cell_Push_ok : FnOK Try.prog noG 22 (unW cell_Push_c) := by
  refine FnOK.ofC (T := cell_Push_T) (nt := 20) (np := 0) (nf := true) (hs := cell_Push_hs) (fn := Try.f22) (body := cell_Push_b) cell_Push_tok (by kernel_rfl) (by kernel_rfl) (by kernel_rfl) (by kernel_rfl) (c := cell_Push_c) (lv := cell_Push_lv) ?_
  intro xs mem p out h hp
  unfold cell_Push_c at h
  split at h
  · cases h
    exact cell_Push_w _ _ (cell_Push_spec _ _ hp) rfl
  · cases h
end
end Go.Proofs.Ytpgpagmnhikpiaa.M

namespace Go.Proofs.Ytpgpagmnhikpiaa.M
open Go
noncomputable section
set_option maxRecDepth 100000
noncomputable def cell_True_T : Tbl := []
noncomputable def cell_True_C : CfgW := mkC Try.prog noG cell_True_T 14 0 false
def cell_True_lv : Nat → List Nat := fun i => bif Nat.beq i 0 then [5, 6, 7] else []
noncomputable abbrev cell_True_b : Code := Try.f17.body.getD .skip
noncomputable abbrev cell_True_r : List ResultVar := Try.f17.results.toList
def cell_True_hs : List Nat := []

def cell_True_enc (r : Bool) : CallOut := ⟨.pv (.sc .b r), [], true, []⟩
def cell_True_s0 (t5 : List UInt8) (t6 : Int) (t7 : Int) : St := ⟨[(5, .pv (.sl .u8 t5)), (6, .pv (.sc .i t6)), (7, .pv (.sc .i t7))], []⟩
theorem cell_True_g0 (t5 : List UInt8) (t6 : Int) (t7 : Int) (Q : CallOut → Prop) : headRound cell_True_C cell_True_lv [true, false, true, false] cell_True_b (cell_True_s0 t5 t6 t7) (fnK cell_True_C cell_True_r cell_True_hs Q) =
    (condP (decide (t7 < t6)) ((((0 : Int) ≤ t7) ∧ (t7 < (((List.length t5) : Nat) : Int))) ∧ (condP (!(decide ((List.getD t5 (Int.toNat t7) (0 : UInt8)) = (0 : UInt8)))) (Q (cell_True_enc true)) (headP cell_True_C cell_True_lv [true, false, true, false] cell_True_b (cell_True_s0 t5 t6 (w64 (t7 + (1 : Int)))) (fnK cell_True_C cell_True_r cell_True_hs Q)))) (Q (cell_True_enc false))) := by kernel_rfl
theorem cell_True_k0 {r : Bool} {Q : CallOut → Prop} (hQ : Q (cell_True_enc r)) : ∀ k : Nat, (∀ (t5 : List UInt8) (t6 : Int) (t7 : Int), cell_True_h0 k t5 t6 t7 = some r → headP cell_True_C cell_True_lv [true, false, true, false] cell_True_b (cell_True_s0 t5 t6 t7) (fnK cell_True_C cell_True_r cell_True_hs Q))
  | 0 => fun _ _ _ h => no_ok h
  | k + 1 => fun t5 t6 t7 h => headP_step (Eq.mpr (cell_True_g0 t5 t6 t7 Q) (have h := (cell_True_h0_q k t5 t6 t7).symm.trans h; cond_ok h (fun h => ite_ok h fun hc0 h => cond_ok h (fun h => ret_ok (Q := Q) (e := cell_True_enc) h hQ) (fun h => (cell_True_k0 hQ k) _ _ _ h)) (fun h => ret_ok (Q := Q) (e := cell_True_enc) h hQ)))
theorem cell_True_e (b : List UInt8) (Q : CallOut → Prop) : evalFnP cell_True_C cell_True_lv cell_True_r cell_True_hs cell_True_b [.pv (.sl .u8 b)] [] Q =
    (headP cell_True_C cell_True_lv [true, false, true, false] cell_True_b (cell_True_s0 b (((List.length b) : Nat) : Int) (0 : Int)) (fnK cell_True_C cell_True_r cell_True_hs Q)) := by kernel_rfl
theorem cell_True_w {k : Nat} (b : List UInt8) {r} {Q : CallOut → Prop} (h : cell_True k b = some r) (hQ : Q (cell_True_enc r)) : evalFnP cell_True_C cell_True_lv cell_True_r cell_True_hs cell_True_b [.pv (.sl .u8 b)] [] Q :=
  Eq.mpr (cell_True_e b Q) (have h := (cell_True_q k b).symm.trans h; (cell_True_k0 hQ _) _ _ _ h)
def cell_True_c : Ans
  | [.pv (.sl .u8 b)], [] => some (some (b.length ≤ 1152921504606846976), cell_True_enc (cellTrue b))
  | _, _ => none
theorem cell_True_tok : TblOK Try.prog noG cell_True_T := .nil
theorem cell_True_ok : FnOK Try.prog noG 17 (unW cell_True_c) := by
  refine FnOK.ofC (T := cell_True_T) (nt := 14) (np := 0) (nf := false) (hs := cell_True_hs) (fn := Try.f17) (body := cell_True_b) cell_True_tok (by kernel_rfl) (by kernel_rfl) (by kernel_rfl) (by kernel_rfl) (c := cell_True_c) (lv := cell_True_lv) ?_
  intro xs mem p out h hp
  unfold cell_True_c at h
  split at h
  · cases h
    obtain ⟨k, hk⟩ := cell_True_spec _ hp
    exact cell_True_w _ hk rfl
  · cases h
end
end Go.Proofs.Ytpgpagmnhikpiaa.M

namespace Go.Proofs.Ytpgpagmnhikpiaa.M
open Go
noncomputable section
set_option maxRecDepth 100000
noncomputable def cell_Pop_T : Tbl := [(30, [false], cell_copied_c)]
noncomputable def cell_Pop_C : CfgW := mkC Try.prog noG cell_Pop_T 29 0 true
def cell_Pop_lv : Nat → List Nat := fun i => []
noncomputable abbrev cell_Pop_b : Code := Try.f24.body.getD .skip
noncomputable abbrev cell_Pop_r : List ResultVar := Try.f24.results.toList
def cell_Pop_hs : List Nat := []

def cell_Pop_enc (r : Int × List PV × List PV) : CallOut := ⟨.tup [.o 60000, .o 60001, .pv (.sc .i r.1)], [(60000, .row (.p 1 r.2.1) false), (60001, .row (.p 1 r.2.2) false)], false, []⟩
theorem cell_Pop_e (l : List PV) (n : Int) (Q : CallOut → Prop) : evalFnP cell_Pop_C cell_Pop_lv cell_Pop_r cell_Pop_hs cell_Pop_b [.pv (.sp 1 l), .pv (.sc .i n)] [] Q =
    (condP (decide (n < (0 : Int))) (Q (cell_Pop_enc ((2 : Int), ([] : List PV), ([] : List PV)))) (condP (decide ((((List.length l) : Nat) : Int) < n)) (Q (cell_Pop_enc ((6 : Int), ([] : List PV), ([] : List PV)))) ((((0 : Int) ≤ (0 : Int)) ∧ (((0 : Int) ≤ (w64 ((((List.length l) : Nat) : Int) - n))) ∧ (((w64 ((((List.length l) : Nat) : Int) - n)) ≤ (w64 ((((List.length l) : Nat) : Int) - n))) ∧ ((w64 ((((List.length l) : Nat) : Int) - n)) ≤ (((List.length l) : Nat) : Int))))) ∧ (((cellsB (List.take ((Int.toNat (w64 ((((List.length l) : Nat) : Int) - n))) - (Int.toNat (0 : Int))) (List.drop (Int.toNat (0 : Int)) l))) = true) ∧ ((((0 : Int) ≤ (w64 ((((List.length l) : Nat) : Int) - n))) ∧ (((w64 ((((List.length l) : Nat) : Int) - n)) ≤ (((List.length l) : Nat) : Int)) ∧ ((((List.length l) : Nat) : Int) ≤ (((List.length l) : Nat) : Int)))) ∧ (((cellsB (List.take ((Int.toNat (((List.length l) : Nat) : Int)) - (Int.toNat (w64 ((((List.length l) : Nat) : Int) - n)))) (List.drop (Int.toNat (w64 ((((List.length l) : Nat) : Int) - n))) l))) = true) ∧ (Q (cell_Pop_enc ((0 : Int), (List.take ((Int.toNat (w64 ((((List.length l) : Nat) : Int) - n))) - (Int.toNat (0 : Int))) (List.drop (Int.toNat (0 : Int)) l)), (List.take ((Int.toNat (((List.length l) : Nat) : Int)) - (Int.toNat (w64 ((((List.length l) : Nat) : Int) - n)))) (List.drop (Int.toNat (w64 ((((List.length l) : Nat) : Int) - n))) l))))))))))) := by kernel_rfl
theorem cell_Pop_w (l : List PV) (n : Int) {r} {Q : CallOut → Prop} (h : cell_Pop l n = some r) (hQ : Q (cell_Pop_enc r)) : evalFnP cell_Pop_C cell_Pop_lv cell_Pop_r cell_Pop_hs cell_Pop_b [.pv (.sp 1 l), .pv (.sc .i n)] [] Q :=
  Eq.mpr (cell_Pop_e l n Q) (have h := (cell_Pop_q l n).symm.trans h; cond_ok h (fun h => ret_ok (Q := Q) (e := cell_Pop_enc) h hQ) (fun h => cond_ok h (fun h => ret_ok (Q := Q) (e := cell_Pop_enc) h hQ) (fun h => ite_ok h fun hc0 h => ite_ok h fun hc1 h => ite_ok h fun hc2 h => ite_ok h fun hc3 h => ret_ok (Q := Q) (e := cell_Pop_enc) h hQ)))
def cell_Pop_c : Ans
  | [.pv (.sp 1 l), .pv (.sc .i n)], [] => some (some (cellsB l = true ∧ I64 n), cell_Pop_enc (popS l n))
  | _, _ => none
theorem cell_Pop_tok : TblOK Try.prog noG cell_Pop_T := .cons ⟨by kernel_rfl, cell_copied_ok⟩ (.nil)
theorem cell_Pop_ok : FnOK Try.prog noG 24 (unW cell_Pop_c) := by
  refine FnOK.ofC (T := cell_Pop_T) (nt := 29) (np := 0) (nf := true) (hs := cell_Pop_hs) (fn := Try.f24) (body := cell_Pop_b) cell_Pop_tok (by kernel_rfl) (by kernel_rfl) (by kernel_rfl) (by kernel_rfl) (c := cell_Pop_c) (lv := cell_Pop_lv) ?_
  intro xs mem p out h hp
  unfold cell_Pop_c at h
  split at h
  · cases h
    exact cell_Pop_w _ _ (cell_Pop_spec _ _ hp) rfl
  · cases h
end
end Go.Proofs.Ytpgpagmnhikpiaa.M
