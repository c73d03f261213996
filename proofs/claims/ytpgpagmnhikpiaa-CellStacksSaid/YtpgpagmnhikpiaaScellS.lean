/- Part of the proofs: what functions of the program do: plain functions, and the walks that show it. No condition. -/
import Derived.KernelRfl
import Derived.Test.YtpgpagmnhikpiaaLd
set_option linter.unusedVariables false
set_option linter.unusedSimpArgs false
set_option autoImplicit false
namespace Go.Proofs.Ytpgpagmnhikpiaa.M
open Go
/-! cells: slices of bytes -/
def isCell (x : PV) : Bool := match x with
  | .sl .u8 ys => Nat.ble ys.length 1099511627776
  | _ => false
def cellsB (l : List PV) : Bool := l.all isCell && Nat.ble l.length 1099511627776
theorem isCell_inv {x : PV} (h : isCell x = true) : ∃ ys : List UInt8, x = .sl .u8 ys ∧ ys.length ≤ 1099511627776 := by
  unfold isCell at h
  split at h
  · exact ⟨_, rfl, Nat.le_of_ble_eq_true h⟩
  · cases h
theorem cellsB_at {l : List PV} (h : cellsB l = true) {i : Nat} (hi : i < l.length) : ∃ ys : List UInt8, l.getD i .nilp = .sl .u8 ys ∧ ys.length ≤ 1099511627776 := by
  unfold cellsB at h
  rw [Bool.and_eq_true, List.all_eq_true] at h
  have : l.getD i .nilp = l[i] := by simp [List.getD, hi]
  rw [this]
  exact isCell_inv (h.1 _ (List.getElem_mem hi))
theorem cellsB_len {l : List PV} (h : cellsB l = true) : l.length ≤ 1099511627776 := by
  unfold cellsB at h
  rw [Bool.and_eq_true] at h
  exact Nat.le_of_ble_eq_true h.2
theorem take_getD {α : Type} {l : List α} {i : Nat} (d : α) (h : i < l.length) : l.take i ++ [l.getD i d] = l.take (i + 1) := by
  rw [List.take_succ_eq_append_getElem h]
  simp [List.getD, h]
def pushS (l : List PV) (b : List UInt8) : Int × List PV := if 64 ≤ l.length ∨ 3000 < b.length then (3, []) else (0, l ++ [PV.sl .u8 b])
def popS (l : List PV) (n : Int) : Int × List PV × List PV := if n < 0 then (2, [], []) else if (l.length : Int) < n then (6, [], []) else (0, l.take (l.length - n.toNat), l.drop (l.length - n.toNat))
theorem cellsB_take {l : List PV} (h : cellsB l = true) (k : Nat) : cellsB (l.take k) = true := by
  unfold cellsB at h ⊢
  rw [Bool.and_eq_true, List.all_eq_true] at h ⊢
  refine ⟨fun x hx => h.1 x (List.mem_of_mem_take hx), ?_⟩
  rw [List.length_take]
  exact Nat.ble_eq_true_of_le (Nat.le_trans (Nat.min_le_right _ _) (Nat.le_of_ble_eq_true h.2))
theorem cellsB_drop {l : List PV} (h : cellsB l = true) (k : Nat) : cellsB (l.drop k) = true := by
  unfold cellsB at h ⊢
  rw [Bool.and_eq_true, List.all_eq_true] at h ⊢
  refine ⟨fun x hx => h.1 x (List.mem_of_mem_drop hx), ?_⟩
  rw [List.length_drop]
  exact Nat.ble_eq_true_of_le (Nat.le_trans (Nat.sub_le _ _) (Nat.le_of_ble_eq_true h.2))
def cellOf (x : PV) : List UInt8 := PV.slv .u8 x
def isCellW (x : PV) : Bool := match x with
  | .sl .u8 ys => Nat.ble ys.length 140737488351232
  | _ => false
def cellsW (l : List PV) : Bool := l.all isCellW
def greatGo : List PV → Nat → Nat → Bool
  | [], _, _ => false
  | x :: r, n, i => decide (20000 < n + (cellOf x).length ∨ 80 < i) || greatGo r (n + (cellOf x).length) (i + 1)
def greatS (l : List PV) : Bool := greatGo l 0 0
theorem isCellW_inv {x : PV} (h : isCellW x = true) : ∃ ys : List UInt8, x = .sl .u8 ys ∧ ys.length ≤ 140737488351232 := by
  unfold isCellW at h
  split at h
  · exact ⟨_, rfl, Nat.le_of_ble_eq_true h⟩
  · cases h
theorem greatGo_small : ∀ (l : List PV) (n i : Nat), l.all isCellW = true → greatGo l n i = false → n ≤ 20000 → i ≤ 81 → l.all isCell = true ∧ l.length + i ≤ 81
  | [], n, i, _, _, _, hi => ⟨rfl, by simpa using hi⟩
  | x :: r, n, i, hw, hg, hn, hi => by
    rw [List.all_cons, Bool.and_eq_true] at hw
    obtain ⟨ys, rfl, hy⟩ := isCellW_inv hw.1
    rw [greatGo, Bool.or_eq_false_iff, decide_eq_false_iff_not] at hg
    obtain ⟨h1, h2⟩ := hg
    have e : cellOf (.sl .u8 ys) = ys := rfl
    rw [e] at h1 h2
    obtain ⟨g1, g2⟩ := greatGo_small r _ _ hw.2 h2 (by omega) (by omega)
    refine ⟨?_, by rw [List.length_cons]; omega⟩
    rw [List.all_cons, g1, Bool.and_true]
    exact Nat.ble_eq_true_of_le (by omega)
theorem greatS_small {l : List PV} (hw : cellsW l = true) (hg : greatS l = false) : cellsB l = true ∧ l.length ≤ 81 := by
  obtain ⟨h1, h2⟩ := greatGo_small l 0 0 hw hg (by omega) (by omega)
  unfold cellsB
  rw [h1]
  exact ⟨Nat.ble_eq_true_of_le (by omega), h2⟩
theorem cells_inj : ∀ {a b : List PV}, a.all isCell = true → b.all isCell = true → a.map cellOf = b.map cellOf → a = b
  | [], [], _, _, _ => rfl
  | [], _ :: _, _, _, h => by simp at h
  | _ :: _, [], _, _, h => by simp at h
  | x :: a, y :: b, ha, hb, h => by
    rw [List.all_cons, Bool.and_eq_true] at ha hb
    obtain ⟨u, rfl, _⟩ := isCell_inv ha.1
    obtain ⟨v, rfl, _⟩ := isCell_inv hb.1
    simp only [List.map_cons, List.cons.injEq] at h
    rw [cells_inj ha.2 hb.2 h.2]
    have : u = v := h.1
    rw [this]
theorem cellsB_app {l : List PV} {b : List UInt8} (h : cellsB l = true) (hl : l.length < 1099511627776) (hb : b.length ≤ 1099511627776) : cellsB (l ++ [PV.sl .u8 b]) = true := by
  unfold cellsB at h ⊢
  rw [Bool.and_eq_true] at h ⊢
  refine ⟨?_, Nat.ble_eq_true_of_le (by simp; omega)⟩
  rw [List.all_append, h.1]
  simp only [List.all_cons, List.all_nil, Bool.and_true, Bool.true_and]
  exact Nat.ble_eq_true_of_le hb
theorem map_getD {l : List PV} {i : Nat} (h : i < l.length) : (l.map cellOf).getD i [] = cellOf (l.getD i .nilp) := by
  simp [List.getD, h]
theorem cellsB_nil : cellsB [] = true := rfl
theorem pushS_cells {l : List PV} {b : List UInt8} (h : cellsB l = true) : cellsB (pushS l b).2 = true := by
  unfold pushS
  split
  · rfl
  · exact cellsB_app h (by omega) (by omega)
theorem popS_cells {l : List PV} {n : Int} (h : cellsB l = true) : cellsB (popS l n).2.1 = true ∧ cellsB (popS l n).2.2 = true := by
  unfold popS
  split
  · exact ⟨rfl, rfl⟩
  · split
    · exact ⟨rfl, rfl⟩
    · exact ⟨cellsB_take h _, cellsB_drop h _⟩
end Go.Proofs.Ytpgpagmnhikpiaa.M

namespace Go.Proofs.Ytpgpagmnhikpiaa.M
open Go
/-! numbers on a stack -/
def I64 (x : Int) : Prop := -9223372036854775808 ≤ x ∧ x < 9223372036854775808
instance (x : Int) : Decidable (I64 x) := inferInstanceAs (Decidable (-9223372036854775808 ≤ x ∧ x < 9223372036854775808))
def ckI (x : Int) : Int × Int := if -9223372036854775808 ≤ x ∧ x < 9223372036854775808 then (x, 0) else (0, 3)
/-- the operators -/
def twoS (op : UInt8) (a b : Int) : Int × Int :=
  if op = 13 then ckI (a + b) else if op = 14 then ckI (a - b) else if op = 15 then ckI (a * b) else if op = 16 then (if a < b then (1, 0) else (0, 0)) else (0, 2)
noncomputable def mulHi (x y : UInt64) : UInt64 := lock (UInt64.ofNat (x.toNat * y.toNat / 18446744073709551616))
noncomputable def mulLo (x y : UInt64) : UInt64 := lock (x * y)
theorem eqb_t (b : Bool) : eqb b true = b := by cases b <;> rfl
theorem eqb_f (b : Bool) : eqb b false = !b := by cases b <;> rfl
theorem cond_dec {α : Type} (p : Prop) [Decidable p] (x y : α) : (bif decide p then x else y) = if p then x else y := by by_cases h : p <;> simp [h]
theorem cond_if {α : Type} (b : Bool) (x y : α) : (bif b then x else y) = if b = true then x else y := by cases b <;> rfl
theorem w64_over {x : Int} (h : 9223372036854775808 ≤ x) (h2 : x < 27670116110564327424) : w64 x = x - 18446744073709551616 := by
  rw [w64_eq]; split <;> omega
theorem w64_under {x : Int} (h : x < -9223372036854775808) (h2 : -27670116110564327424 ≤ x) : w64 x = x + 18446744073709551616 := by
  rw [w64_eq]; split <;> omega
theorem w64_three (x : Int) (h1 : -18446744073709551616 ≤ x) (h2 : x < 18446744073709551616) : (I64 x ∧ w64 x = x ∧ ckI x = (x, 0)) ∨ (9223372036854775808 ≤ x ∧ w64 x = x - 18446744073709551616 ∧ ckI x = (0, 3)) ∨ (x < -9223372036854775808 ∧ w64 x = x + 18446744073709551616 ∧ ckI x = (0, 3)) := by
  by_cases h : -9223372036854775808 ≤ x ∧ x < 9223372036854775808
  · exact .inl ⟨h, w64_id h.1 h.2, if_pos h⟩
  · by_cases h3 : 9223372036854775808 ≤ x
    · exact .inr (.inl ⟨h3, w64_over h3 (by omega), if_neg h⟩)
    · exact .inr (.inr ⟨by omega, w64_under (by omega) (by omega), if_neg h⟩)
end Go.Proofs.Ytpgpagmnhikpiaa.M

namespace Go.Proofs.Ytpgpagmnhikpiaa.M
open Go
/-! numbers as bytes -/
def byteI (n : Int) : UInt8 := UInt8.ofNat (n % 256).toNat
def numV : List UInt8 → Int
  | [] => 0
  | [x] => if 128 ≤ x.toNat then (x.toNat : Int) - 256 else (x.toNat : Int)
  | x :: y :: r => (x.toNat : Int) + 256 * numV (y :: r)
def numP : Nat → Int → List UInt8
  | 0, _ => []
  | k + 1, n => if -128 ≤ n ∧ n < 128 then [byteI n] else byteI n :: numP k (n / 256)
/-- the bytes of a number -/
def numB (n : Int) : List UInt8 := if n = 0 then [] else numP 8 n
/-- the number of bytes, or an error -/
def numOf (b : List UInt8) : Int × Int := if b.length ≤ 8 ∧ numB (numV b) = b then (numV b, 0) else (0, 5)
def cellTrue (b : List UInt8) : Bool := b.any fun c => decide (c ≠ 0)
theorem byteI_nat (n : Int) : ((byteI n).toNat : Int) = n % 256 := by
  unfold byteI
  rw [UInt8.toNat_ofNat']
  omega
theorem ediv_pow (n : Int) (k : Nat) : n / 256 / 256 ^ k = n / 256 ^ (k + 1) := by
  rw [Int.ediv_ediv_of_nonneg (by decide), Int.pow_succ, Int.mul_comm]
def preN : Nat → Int → List UInt8
  | 0, _ => []
  | k + 1, n => byteI n :: preN k (n / 256)
theorem preN_len : ∀ k n, (preN k n).length = k
  | 0, _ => rfl
  | k + 1, n => by rw [preN, List.length_cons, preN_len k]
theorem preN_snoc : ∀ k n, preN (k + 1) n = preN k n ++ [byteI (n / 256 ^ k)]
  | 0, n => by simp [preN]
  | k + 1, n => by
    rw [preN, preN_snoc k (n / 256), ediv_pow]
    rfl
theorem preN_done : ∀ k n, numV (preN (k + 1) n) = n ↔ -128 ≤ n / 256 ^ k ∧ n / 256 ^ k < 128
  | 0, n => by
    have h := byteI_nat n
    simp only [preN, numV, Int.pow_zero, Int.ediv_one]
    split <;> omega
  | k + 1, n => by
    have h := byteI_nat n
    have ih := preN_done k (n / 256)
    rw [ediv_pow] at ih
    rw [← ih]
    have : numV (preN (k + 1 + 1) n) = ((byteI n).toNat : Int) + 256 * numV (preN (k + 1) (n / 256)) := by
      rw [preN, preN, numV]
    rw [this]
    generalize numV (preN (k + 1) (n / 256)) = v
    omega
theorem numP_pre : ∀ f n, numP f n = preN (numP f n).length n
  | 0, n => rfl
  | f + 1, n => by
    unfold numP
    split
    · rfl
    · rw [List.length_cons, preN, ← numP_pre f (n / 256)]
theorem numB_pre (n : Int) : numB n = preN (numB n).length n := by
  unfold numB
  split
  · rfl
  · exact numP_pre 8 n
theorem numV_pre : ∀ b : List UInt8, preN b.length (numV b) = b
  | [] => rfl
  | [x] => by
    have hx := x.toNat_lt
    have : byteI (numV [x]) = x := by
      apply UInt8.toNat_inj.1
      have := byteI_nat (numV [x])
      have e : numV [x] = if 128 ≤ x.toNat then (x.toNat : Int) - 256 else (x.toNat : Int) := rfl
      generalize numV [x] = v at *
      split at e <;> omega
    simp only [List.length_cons, List.length_nil, preN, this]
  | x :: y :: r => by
    have hx := x.toNat_lt
    have ih := numV_pre (y :: r)
    have h1 : byteI (numV (x :: y :: r)) = x := by
      apply UInt8.toNat_inj.1
      have := byteI_nat (numV (x :: y :: r))
      simp only [numV] at this ⊢
      omega
    have h2 : numV (x :: y :: r) / 256 = numV (y :: r) := by simp only [numV]; omega
    rw [List.length_cons, preN, h1, h2, ih]
theorem numB_len (b : List UInt8) : (numB (numV b)).length = b.length ↔ numB (numV b) = b := by
  constructor
  · intro h
    rw [numB_pre, h, numV_pre]
  · intro h; rw [h]
def numU : List UInt8 → Nat
  | [] => 0
  | x :: r => x.toNat + 256 * numU r
theorem numU_lt : ∀ b : List UInt8, numU b < 256 ^ b.length
  | [] => by decide
  | x :: r => by
    have hx := x.toNat_lt
    have ih := numU_lt r
    rw [numU, List.length_cons, Nat.pow_succ]
    omega
theorem numV_U : ∀ (x : UInt8) (r : List UInt8), numV (x :: r) = (numU (x :: r) : Int) - (if 128 * 256 ^ r.length ≤ numU (x :: r) then ((256 ^ (r.length + 1) : Nat) : Int) else 0)
  | x, [] => by
    have hx := x.toNat_lt
    have e1 : numV [x] = if 128 ≤ x.toNat then (x.toNat : Int) - 256 else (x.toNat : Int) := rfl
    have e2 : numU [x] = x.toNat := rfl
    rw [e1, e2, List.length_nil, show 128 * 256 ^ 0 = 128 from rfl, show 256 ^ (0 + 1) = 256 from rfl]
    split <;> omega
  | x, y :: r => by
    have hx := x.toNat_lt
    have ih := numV_U y r
    have e : numV (x :: y :: r) = (x.toNat : Int) + 256 * numV (y :: r) := rfl
    have e2 : numU (x :: y :: r) = x.toNat + 256 * numU (y :: r) := rfl
    rw [e, e2, ih]
    rw [List.length_cons, Nat.pow_succ (m := r.length + 1), Nat.pow_succ (m := r.length)]
    generalize numU (y :: r) = u
    generalize 256 ^ r.length = p
    split <;> split <;> omega
theorem numU_snoc : ∀ (b : List UInt8) (x : UInt8), numU (b ++ [x]) = numU b + x.toNat * 256 ^ b.length
  | [], x => by simp [numU]
  | y :: b, x => by
    rw [List.cons_append, numU, numU, numU_snoc b x, List.length_cons, Nat.pow_succ]
    grind
theorem numV_I64 (b : List UInt8) (h : b.length ≤ 8) : I64 (numV b) := by
  cases b with
  | nil => exact ⟨by decide, by decide⟩
  | cons x r =>
    have h1 := numU_lt (x :: r)
    rw [numV_U]
    rw [List.length_cons] at h h1
    have hp : 256 ^ (r.length + 1) ≤ 256 ^ 8 := Nat.pow_le_pow_right (by decide) h
    rw [Nat.pow_succ] at h1 hp ⊢
    generalize numU (x :: r) = u at *
    generalize 256 ^ r.length = p at *
    unfold I64
    split <;> omega
theorem shr_i_eq (n : Int) (k : Nat) (h : k ≤ 7) : shr_i n (8 * k) = n / 256 ^ k := by
  unfold shr_i
  have : k = 0 ∨ k = 1 ∨ k = 2 ∨ k = 3 ∨ k = 4 ∨ k = 5 ∨ k = 6 ∨ k = 7 := by omega
  rcases this with h | h | h | h | h | h | h | h <;> subst h <;> simp [Int.fdiv_eq_ediv_of_nonneg]
theorem numP_len : ∀ f n, (numP f n).length ≤ f
  | 0, _ => Nat.le_refl _
  | f + 1, n => by
    unfold numP
    split
    · simp
    · have := numP_len f (n / 256)
      rw [List.length_cons]; omega
theorem numP_val : ∀ f n, -(128 * 256 ^ f) ≤ n → n < 128 * 256 ^ f → numV (numP (f + 1) n) = n
  | f, n, h1, h2 => by
    unfold numP
    by_cases hd : -128 ≤ n ∧ n < 128
    · rw [if_pos hd]
      have := (preN_done 0 n).2 (by simpa using hd)
      exact this
    · rw [if_neg hd]
      cases f with
      | zero => simp at h1 h2; omega
      | succ f =>
        have ih := numP_val f (n / 256) (by rw [Int.pow_succ] at h1; omega) (by rw [Int.pow_succ] at h2; omega)
        have hb := byteI_nat n
        have : numV (byteI n :: numP (f + 1) (n / 256)) = ((byteI n).toNat : Int) + 256 * numV (numP (f + 1) (n / 256)) := by
          unfold numP
          split <;> rfl
        rw [this, ih]
        omega
theorem numB_val {n : Int} (h : I64 n) : numV (numB n) = n := by
  unfold numB
  by_cases h0 : n = 0
  · rw [if_pos h0, h0]; rfl
  · rw [if_neg h0]
    obtain ⟨h1, h2⟩ := h
    exact numP_val 7 n (by omega) (by omega)
theorem numB_le (n : Int) : (numB n).length ≤ 8 := by
  unfold numB
  split
  · simp
  · exact numP_len 8 n
theorem numOf_B {n : Int} (h : I64 n) : numOf (numB n) = (n, 0) := by
  unfold numOf
  rw [if_pos ⟨numB_le n, by rw [numB_val h]⟩, numB_val h]
end Go.Proofs.Ytpgpagmnhikpiaa.M
