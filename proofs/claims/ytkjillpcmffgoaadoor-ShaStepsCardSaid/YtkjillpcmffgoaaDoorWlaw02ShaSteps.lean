/- The statement of ShaSteps: for every input the law returns true, and each argument reads behind the call as it read before. No condition. -/
import Derived.KernelRfl
import Derived.Test.YtkjillpcmffgoaaDoorProg
import Derived.Test.YtkjillpcmffgoaaDoorRows
import Derived.Test.YtkjillpcmffgoaaDoorCards
import Derived.Test.YtkjillpcmffgoaaDoorTie
import Derived.WalkKit
import Derived.ProofKit
import Derived.Handy
import Derived.Lay
import Derived.SizedLaws
import Derived.SevenTiedAt
import Derived.Test.YtkjillpcmffgoaaDoorLd
import Derived.Test.YtkjillpcmffgoaaDoorFsha
import Derived.Test.YtkjillpcmffgoaaDoorFlaw02
import Derived.Test.YtkjillpcmffgoaaDoorSwords
import Derived.Test.YtkjillpcmffgoaaDoorSshaS
import Derived.Test.YtkjillpcmffgoaaDoorSshaK
import Derived.Test.YtkjillpcmffgoaaDoorSKL
set_option linter.unusedVariables false
set_option linter.unusedSimpArgs false
set_option autoImplicit false
namespace Go.Proofs.YtkjillpcmffgoaaDoor.M
open Go
noncomputable section
/-- the loop 4 of moneyer/moneyerlaw02.ShaSteps -/
def law02_ShaSteps_h4 : Nat → Int → (List UInt8) → (Vector UInt32 8) → (Vector UInt8 32) → Option (Bool)
  | 0, _, _, _, _ => none
  | k + 1, i, p, s, h_ => bif decide (i < (32 : Int)) then (if ((0 : Int) ≤ i) ∧ (i < (32 : Int)) then
        if ((0 : Int) ≤ (w64 (Int.tdiv i (4 : Int)))) ∧ ((w64 (Int.tdiv i (4 : Int))) < (8 : Int)) then
          bif !(decide ((List.getD (Vector.toList h_) (Int.toNat i) (0 : UInt8)) = (UInt32.toUInt8 (shr_u32 (List.getD (Vector.toList s) (Int.toNat (w64 (Int.tdiv i (4 : Int)))) (0 : UInt32)) (UInt64.toNat (UInt64.ofInt (w64 ((24 : Int) - (w64 ((8 : Int) * (Int.tmod i (4 : Int)))))))))))) then (some false)
            else (law02_ShaSteps_h4 k (w64 (i + (1 : Int))) p s h_)
        else none
      else none)
      else (bif eqb (decide ((Int.tmod (((List.length p) : Nat) : Int) (64 : Int)) = (0 : Int))) true then (bif eqb (bif true then (decide ((0 : Int) < (((List.length p) : Nat) : Int))) else false) true then (some true)
          else (some false))
        else (some false))
theorem law02_ShaSteps_h4_q (k : Nat) (i : Int) (p : List UInt8) (s : Vector UInt32 8) (h_ : Vector UInt8 32) : law02_ShaSteps_h4 (k + 1) i p s h_ =
  (bif decide (i < (32 : Int)) then (if ((0 : Int) ≤ i) ∧ (i < (32 : Int)) then
        if ((0 : Int) ≤ (w64 (Int.tdiv i (4 : Int)))) ∧ ((w64 (Int.tdiv i (4 : Int))) < (8 : Int)) then
          bif !(decide ((List.getD (Vector.toList h_) (Int.toNat i) (0 : UInt8)) = (UInt32.toUInt8 (shr_u32 (List.getD (Vector.toList s) (Int.toNat (w64 (Int.tdiv i (4 : Int)))) (0 : UInt32)) (UInt64.toNat (UInt64.ofInt (w64 ((24 : Int) - (w64 ((8 : Int) * (Int.tmod i (4 : Int)))))))))))) then (some false)
            else (law02_ShaSteps_h4 k (w64 (i + (1 : Int))) p s h_)
        else none
      else none)
      else (bif eqb (decide ((Int.tmod (((List.length p) : Nat) : Int) (64 : Int)) = (0 : Int))) true then (bif eqb (bif true then (decide ((0 : Int) < (((List.length p) : Nat) : Int))) else false) true then (some true)
          else (some false))
        else (some false))) := by kernel_rfl
mutual
/-- the loop 0 of moneyer/moneyerlaw02.ShaSteps -/
def law02_ShaSteps_h0 : Nat → (List UInt8) → Int → (List UInt8) → (Vector UInt32 8) → Option (Bool)
  | 0, _, _, _, _ => none
  | k + 1, b, i, p, s => bif decide ((w64 (i + (64 : Int))) ≤ (((List.length p) : Nat) : Int)) then (law02_ShaSteps_h2 k b i (0 : Int) p s (Vector.replicate (64 : Nat) (0 : UInt8)))
      else (if (List.length b) ≤ (1099511627776 : Nat) then
        law02_ShaSteps_h4 k (0 : Int) p s (shaSum b)
      else none)
/-- the loop 2 of moneyer/moneyerlaw02.ShaSteps -/
def law02_ShaSteps_h2 : Nat → (List UInt8) → Int → Int → (List UInt8) → (Vector UInt32 8) → (Vector UInt8 64) → Option (Bool)
  | 0, _, _, _, _, _, _ => none
  | k + 1, b, i, k_, p, s, part => bif decide (k_ < (64 : Int)) then (if ((0 : Int) ≤ (w64 (i + k_))) ∧ ((w64 (i + k_)) < (((List.length p) : Nat) : Int)) then
        if ((0 : Int) ≤ k_) ∧ (k_ < (64 : Int)) then
          law02_ShaSteps_h2 k b i (w64 (k_ + (1 : Int))) p s (Vector.setIfInBounds part (Int.toNat k_) (List.getD p (Int.toNat (w64 (i + k_))) (0 : UInt8)))
        else none
      else none)
      else (law02_ShaSteps_h0 k b (w64 (i + (64 : Int))) p (shaRound shaK s (fun (z7 : Nat) => (List.getD (Vector.toList part) z7 (0 : UInt8)))))
end
theorem law02_ShaSteps_h0_q (k : Nat) (b : List UInt8) (i : Int) (p : List UInt8) (s : Vector UInt32 8) : law02_ShaSteps_h0 (k + 1) b i p s =
  (bif decide ((w64 (i + (64 : Int))) ≤ (((List.length p) : Nat) : Int)) then (law02_ShaSteps_h2 k b i (0 : Int) p s (Vector.replicate (64 : Nat) (0 : UInt8)))
      else (if (List.length b) ≤ (1099511627776 : Nat) then
        law02_ShaSteps_h4 k (0 : Int) p s (shaSum b)
      else none)) := by kernel_rfl
theorem law02_ShaSteps_h2_q (k : Nat) (b : List UInt8) (i : Int) (k_ : Int) (p : List UInt8) (s : Vector UInt32 8) (part : Vector UInt8 64) : law02_ShaSteps_h2 (k + 1) b i k_ p s part =
  (bif decide (k_ < (64 : Int)) then (if ((0 : Int) ≤ (w64 (i + k_))) ∧ ((w64 (i + k_)) < (((List.length p) : Nat) : Int)) then
        if ((0 : Int) ≤ k_) ∧ (k_ < (64 : Int)) then
          law02_ShaSteps_h2 k b i (w64 (k_ + (1 : Int))) p s (Vector.setIfInBounds part (Int.toNat k_) (List.getD p (Int.toNat (w64 (i + k_))) (0 : UInt8)))
        else none
      else none)
      else (law02_ShaSteps_h0 k b (w64 (i + (64 : Int))) p (shaRound shaK s (fun (z7 : Nat) => (List.getD (Vector.toList part) z7 (0 : UInt8)))))) := by kernel_rfl
/-- moneyer/moneyerlaw02.ShaSteps -/
def law02_ShaSteps (k : Nat) (b : List UInt8) : Option (Bool) :=
  bif decide ((1000 : Int) < (((List.length b) : Nat) : Int)) then (if ((0 : Int) ≤ (0 : Int)) ∧ (((0 : Int) ≤ (1000 : Int)) ∧ ((1000 : Int) ≤ (((List.length b) : Nat) : Int))) then
      if (List.length (List.take ((Int.toNat (1000 : Int)) - (Int.toNat (0 : Int))) (List.drop (Int.toNat (0 : Int)) b))) ≤ (1099511627776 : Nat) then
        law02_ShaSteps_h0 k (List.take ((Int.toNat (1000 : Int)) - (Int.toNat (0 : Int))) (List.drop (Int.toNat (0 : Int)) b)) (0 : Int) (shaPad (List.take ((Int.toNat (1000 : Int)) - (Int.toNat (0 : Int))) (List.drop (Int.toNat (0 : Int)) b))) sha_Begin
      else none
    else none)
    else (if (List.length b) ≤ (1099511627776 : Nat) then
      law02_ShaSteps_h0 k b (0 : Int) (shaPad b) sha_Begin
    else none)
theorem law02_ShaSteps_q (k : Nat) (b : List UInt8) : law02_ShaSteps k b = (bif decide ((1000 : Int) < (((List.length b) : Nat) : Int)) then (if ((0 : Int) ≤ (0 : Int)) ∧ (((0 : Int) ≤ (1000 : Int)) ∧ ((1000 : Int) ≤ (((List.length b) : Nat) : Int))) then
      if (List.length (List.take ((Int.toNat (1000 : Int)) - (Int.toNat (0 : Int))) (List.drop (Int.toNat (0 : Int)) b))) ≤ (1099511627776 : Nat) then
        law02_ShaSteps_h0 k (List.take ((Int.toNat (1000 : Int)) - (Int.toNat (0 : Int))) (List.drop (Int.toNat (0 : Int)) b)) (0 : Int) (shaPad (List.take ((Int.toNat (1000 : Int)) - (Int.toNat (0 : Int))) (List.drop (Int.toNat (0 : Int)) b))) sha_Begin
      else none
    else none)
    else (if (List.length b) ≤ (1099511627776 : Nat) then
      law02_ShaSteps_h0 k b (0 : Int) (shaPad b) sha_Begin
    else none)) := by kernel_rfl
theorem law02_ShaSteps_l4 (p : List UInt8) (s : Vector UInt32 8) (hp : p.length % 64 = 0) (h0 : 0 < p.length) : Ev (fun k => law02_ShaSteps_h4 k 0 p s (shaOut s)) true := by
  refine Ev.up (σ := Unit) (H := fun k i _ => law02_ShaSteps_h4 k i p s (shaOut s)) (lo := 0) (n := 32) (step := fun _ _ => ()) ?_ 32 0 () (Nat.le_refl 0) rfl ?_
  · intro i _ _ hi e
    refine Ev.step (fun k => ?_) e
    have a1 : Int.tdiv (i : Int) 4 = ((i / 4 : Nat) : Int) := rfl
    have a2 : Int.tmod (i : Int) 4 = ((i % 4 : Nat) : Int) := rfl
    have a3 : w64 (((i / 4 : Nat) : Int)) = ((i / 4 : Nat) : Int) := w64_id (by omega) (by omega)
    have a4 : w64 (8 * ((i % 4 : Nat) : Int)) = ((8 * (i % 4) : Nat) : Int) := by rw [w64_id (by omega) (by omega)]; omega
    have a5 : w64 (24 - ((8 * (i % 4) : Nat) : Int)) = ((24 - 8 * (i % 4) : Nat) : Int) := by rw [w64_id (by omega) (by omega)]; omega
    have a6 : (UInt64.ofInt ((24 - 8 * (i % 4) : Nat) : Int)).toNat = 24 - 8 * (i % 4) := by
      have : i % 4 = 0 ∨ i % 4 = 1 ∨ i % 4 = 2 ∨ i % 4 = 3 := by omega
      rcases this with h | h | h | h <;> rw [h] <;> rfl
    have a7 : List.getD (Vector.toList (shaOut s)) i 0 = (shr_u32 (List.getD (Vector.toList s) (i / 4) 0) (24 - 8 * (i % 4))).toUInt8 := vget_ofFn (fun i : Fin 32 => shaByte s i.val) i 0 hi
    rw [law02_ShaSteps_h4_q, bif_pos (by omega), a1, a2, a3, a4, a5, a6, if_pos (by omega), if_pos (by omega), w64_id (by omega) (by omega), Int.toNat_natCast, Int.toNat_natCast, a7, decide_eq_true rfl]
    rfl
  · refine Ev.done fun k => ?_
    have h7 : Int.tmod ((p.length : Nat) : Int) 64 = 0 := by
      have : Int.tmod ((p.length : Nat) : Int) 64 = ((p.length % 64 : Nat) : Int) := rfl
      rw [this, hp]; rfl
    rw [law02_ShaSteps_h4_q, bif_neg (by omega), h7, decide_eq_true rfl, decide_eq_true (by omega)]
    rfl
theorem law02_ShaSteps_short (b : List UInt8) (hb : b.length ≤ 1000) : ∃ k, law02_ShaSteps_h0 k b 0 (shaPad b) shaInit = some true := by
  show Ev (fun k => law02_ShaSteps_h0 k b 0 (shaPad b) shaInit) true
  obtain ⟨p1, p2, p3⟩ := shaPad_len b
  have gen : ∀ n s, n * 64 ≤ (shaPad b).length → s = shaFold (shaPad b) n → Ev (fun k => law02_ShaSteps_h0 k b ((64 * n : Nat) : Int) (shaPad b) s) true := by
    intro n s hn hs
    generalize hm : (shaPad b).length / 64 - n = m
    induction m generalizing n s with
    | zero =>
      have h1 : n = (shaPad b).length / 64 := by omega
      have h2 : shaSum b = shaOut s := by rw [shaSum_eq, ← h1, ← hs]
      refine Ev.step (fun k => ?_) (law02_ShaSteps_l4 (shaPad b) s p1 (by omega))
      have a1 : w64 (((64 * n : Nat) : Int) + 64) = ((64 * n + 64 : Nat) : Int) := by rw [w64_id (by omega) (by omega)]; omega
      rw [law02_ShaSteps_h0_q, a1, bif_neg (by omega), if_pos (by omega), h2]
    | succ m ih =>
      have e1 := ih (n + 1) (shaFold (shaPad b) (n + 1)) (by omega) rfl (by omega)
      have a1 : w64 (((64 * n : Nat) : Int) + 64) = ((64 * (n + 1) : Nat) : Int) := by rw [w64_id (by omega) (by omega)]; omega
      refine Ev.step (g := fun k => law02_ShaSteps_h2 k b ((64 * n : Nat) : Int) 0 (shaPad b) s (Vector.replicate 64 0)) (fun k => by rw [law02_ShaSteps_h0_q, a1, bif_pos (by omega)]) ?_
      refine Ev.up (H := fun k j part => law02_ShaSteps_h2 k b ((64 * n : Nat) : Int) j (shaPad b) s part) (lo := 0) (n := 64) (step := fun j part => Vector.setIfInBounds part j (List.getD (shaPad b) (64 * n + j) 0)) ?_ 64 0 _ (Nat.le_refl 0) rfl ?_
      · intro j part _ hj e
        refine Ev.step (fun k => ?_) e
        have a2 : w64 (((64 * n : Nat) : Int) + (j : Int)) = ((64 * n + j : Nat) : Int) := w64_add (by omega)
        rw [law02_ShaSteps_h2_q, bif_pos (by omega), a2, if_pos (by omega), if_pos (by omega), Int.toNat_natCast, Int.toNat_natCast, w64_id (by omega) (by omega)]
      · refine Ev.step (fun k => ?_) e1
        rw [law02_ShaSteps_h2_q, bif_neg (by omega), a1, iterUp_fill (fun j => List.getD (shaPad b) (64 * n + j) 0)]
        subst hs
        refine congrArg (fun y => law02_ShaSteps_h0 k b ((64 * (n + 1) : Nat) : Int) (shaPad b) y) ?_
        exact shaRound_congr fun j hj => vget_ofFn (fun i : Fin 64 => List.getD (shaPad b) (64 * n + i.val) 0) j 0 hj
  exact gen 0 _ (by omega) rfl
theorem law02_ShaSteps_spec (b : List UInt8) : ∃ k, law02_ShaSteps k b = some true := by
  by_cases h : 1000 < b.length
  · have hc : (List.take (Int.toNat 1000) b).length ≤ 1000 := by rw [List.length_take]; exact Nat.min_le_left _ _
    obtain ⟨k, hk⟩ := law02_ShaSteps_short _ hc
    refine ⟨k, ?_⟩
    rw [law02_ShaSteps_q, bif_pos (by omega), if_pos (by omega), take_to, if_pos (by omega), sha_Begin_eq]
    exact hk
  · obtain ⟨k, hk⟩ := law02_ShaSteps_short b (by omega)
    refine ⟨k, ?_⟩
    rw [law02_ShaSteps_q, bif_neg (by omega), if_pos (by omega), sha_Begin_eq]
    exact hk

end
end Go.Proofs.YtkjillpcmffgoaaDoor.M

namespace Go.Proofs.YtkjillpcmffgoaaDoor.M
open Go
noncomputable section
set_option maxRecDepth 100000
noncomputable def law02_ShaSteps_T : Tbl := [(18, [], sha_Padded_c), (15, [], sha_Begin_c), (13, [], sha_Round_c), (19, [], sha_Sum_c), (17, [], law02_works_c)]
noncomputable def law02_ShaSteps_C : CfgW := mkC Tryd.prog theG law02_ShaSteps_T 73 0
def law02_ShaSteps_lv : Nat → List Nat := fun i => bif Nat.beq i 4 then [3, 4, 8, 9] else bif Nat.beq i 2 then [0, 3, 4, 5, 6, 7] else bif Nat.beq i 0 then [0, 3, 4, 5] else []
noncomputable abbrev law02_ShaSteps_b : Code := Tryd.f4.body.getD .skip
noncomputable abbrev law02_ShaSteps_r : List ResultVar := Tryd.f4.results.toList
def law02_ShaSteps_hs : List Nat := []

def law02_ShaSteps_enc (r : Bool) : CallOut := ⟨.pv (.sc .b r), [], true, []⟩
def law02_ShaSteps_s0 (b : List UInt8) (i : Int) (p : List UInt8) (s : Vector UInt32 8) : St := ⟨[(0, .pv (.sl .u8 b)), (3, .o 60000), (4, .p 60001 []), (5, .pv (.sc .i i))], [(60000, .row (.s .u8 p) false), (60001, .box (.pv (.arr .u32 8 s)))]⟩
def law02_ShaSteps_s2 (b : List UInt8) (i : Int) (k_ : Int) (p : List UInt8) (s : Vector UInt32 8) (part : Vector UInt8 64) : St := ⟨[(0, .pv (.sl .u8 b)), (3, .o 60000), (4, .p 60001 []), (5, .pv (.sc .i i)), (6, .p 60002 []), (7, .pv (.sc .i k_))], [(60000, .row (.s .u8 p) false), (60001, .box (.pv (.arr .u32 8 s))), (60002, .box (.pv (.arr .u8 64 part)))]⟩
def law02_ShaSteps_s4 (i : Int) (p : List UInt8) (s : Vector UInt32 8) (h_ : Vector UInt8 32) : St := ⟨[(3, .o 60000), (4, .p 60001 []), (8, .p 60002 []), (9, .pv (.sc .i i))], [(60000, .row (.s .u8 p) false), (60001, .box (.pv (.arr .u32 8 s))), (60002, .box (.pv (.arr .u8 32 h_)))]⟩
theorem law02_ShaSteps_g0 (b : List UInt8) (i : Int) (p : List UInt8) (s : Vector UInt32 8) (Q : CallOut → Prop) : headRound law02_ShaSteps_C law02_ShaSteps_lv [true, true, true, true, false, true, false] law02_ShaSteps_b (law02_ShaSteps_s0 b i p s) (fnK law02_ShaSteps_C law02_ShaSteps_r law02_ShaSteps_hs Q) =
    (condP (decide ((w64 (i + (64 : Int))) ≤ (((List.length p) : Nat) : Int))) (headP law02_ShaSteps_C law02_ShaSteps_lv [true, true, true, true, false, true, false, false, true, false, false, true, false, true, false] law02_ShaSteps_b (law02_ShaSteps_s2 b i (0 : Int) p s (Vector.replicate (64 : Nat) (0 : UInt8))) (fnK law02_ShaSteps_C law02_ShaSteps_r law02_ShaSteps_hs Q)) (((List.length b) ≤ (1099511627776 : Nat)) ∧ (headP law02_ShaSteps_C law02_ShaSteps_lv [true, true, true, true, true, true, false, true, false] law02_ShaSteps_b (law02_ShaSteps_s4 (0 : Int) p s (shaSum b)) (fnK law02_ShaSteps_C law02_ShaSteps_r law02_ShaSteps_hs Q)))) := by kernel_rfl
theorem law02_ShaSteps_g2 (b : List UInt8) (i : Int) (k_ : Int) (p : List UInt8) (s : Vector UInt32 8) (part : Vector UInt8 64) (Q : CallOut → Prop) : headRound law02_ShaSteps_C law02_ShaSteps_lv [true, true, true, true, false, true, false, false, true, false, false, true, false, true, false] law02_ShaSteps_b (law02_ShaSteps_s2 b i k_ p s part) (fnK law02_ShaSteps_C law02_ShaSteps_r law02_ShaSteps_hs Q) =
    (condP (decide (k_ < (64 : Int))) ((((0 : Int) ≤ (w64 (i + k_))) ∧ ((w64 (i + k_)) < (((List.length p) : Nat) : Int))) ∧ ((((0 : Int) ≤ k_) ∧ (k_ < (64 : Int))) ∧ (headP law02_ShaSteps_C law02_ShaSteps_lv [true, true, true, true, false, true, false, false, true, false, false, true, false, true, false] law02_ShaSteps_b (law02_ShaSteps_s2 b i (w64 (k_ + (1 : Int))) p s (Vector.setIfInBounds part (Int.toNat k_) (List.getD p (Int.toNat (w64 (i + k_))) (0 : UInt8)))) (fnK law02_ShaSteps_C law02_ShaSteps_r law02_ShaSteps_hs Q)))) (headP law02_ShaSteps_C law02_ShaSteps_lv [true, true, true, true, false, true, false] law02_ShaSteps_b (law02_ShaSteps_s0 b (w64 (i + (64 : Int))) p (shaRound shaK s (fun (z7 : Nat) => (List.getD (Vector.toList part) z7 (0 : UInt8))))) (fnK law02_ShaSteps_C law02_ShaSteps_r law02_ShaSteps_hs Q))) := by kernel_rfl
theorem law02_ShaSteps_g4 (i : Int) (p : List UInt8) (s : Vector UInt32 8) (h_ : Vector UInt8 32) (Q : CallOut → Prop) : headRound law02_ShaSteps_C law02_ShaSteps_lv [true, true, true, true, true, true, false, true, false] law02_ShaSteps_b (law02_ShaSteps_s4 i p s h_) (fnK law02_ShaSteps_C law02_ShaSteps_r law02_ShaSteps_hs Q) =
    (condP (decide (i < (32 : Int))) ((((0 : Int) ≤ i) ∧ (i < (32 : Int))) ∧ (((4 : Int) ≠ (0 : Int)) ∧ ((((0 : Int) ≤ (w64 (Int.tdiv i (4 : Int)))) ∧ ((w64 (Int.tdiv i (4 : Int))) < (8 : Int))) ∧ (((4 : Int) ≠ (0 : Int)) ∧ (condP (!(decide ((List.getD (Vector.toList h_) (Int.toNat i) (0 : UInt8)) = (UInt32.toUInt8 (shr_u32 (List.getD (Vector.toList s) (Int.toNat (w64 (Int.tdiv i (4 : Int)))) (0 : UInt32)) (UInt64.toNat (UInt64.ofInt (w64 ((24 : Int) - (w64 ((8 : Int) * (Int.tmod i (4 : Int))))))))))))) (Q (law02_ShaSteps_enc false)) (headP law02_ShaSteps_C law02_ShaSteps_lv [true, true, true, true, true, true, false, true, false] law02_ShaSteps_b (law02_ShaSteps_s4 (w64 (i + (1 : Int))) p s h_) (fnK law02_ShaSteps_C law02_ShaSteps_r law02_ShaSteps_hs Q))))))) (((64 : Int) ≠ (0 : Int)) ∧ (condP (eqb (decide ((Int.tmod (((List.length p) : Nat) : Int) (64 : Int)) = (0 : Int))) true) (condP (eqb (bif true then (decide ((0 : Int) < (((List.length p) : Nat) : Int))) else false) true) (Q (law02_ShaSteps_enc true)) (Q (law02_ShaSteps_enc false))) (Q (law02_ShaSteps_enc false))))) := by kernel_rfl
theorem law02_ShaSteps_k4 {r : Bool} {Q : CallOut → Prop} (hQ : Q (law02_ShaSteps_enc r)) : ∀ k : Nat, (∀ (i : Int) (p : List UInt8) (s : Vector UInt32 8) (h_ : Vector UInt8 32), law02_ShaSteps_h4 k i p s h_ = some r → headP law02_ShaSteps_C law02_ShaSteps_lv [true, true, true, true, true, true, false, true, false] law02_ShaSteps_b (law02_ShaSteps_s4 i p s h_) (fnK law02_ShaSteps_C law02_ShaSteps_r law02_ShaSteps_hs Q))
  | 0 => fun _ _ _ _ h => no_ok h
  | k + 1 => fun i p s h_ h => headP_step (Eq.mpr (law02_ShaSteps_g4 i p s h_ Q) (have h := (law02_ShaSteps_h4_q k i p s h_).symm.trans h; cond_ok h (fun h => ite_ok h fun hc0 h => ⟨by decide +kernel, ite_ok h fun hc1 h => ⟨by decide +kernel, cond_ok h (fun h => ret_ok (Q := Q) (e := law02_ShaSteps_enc) h hQ) (fun h => (law02_ShaSteps_k4 hQ k) _ _ _ _ h)⟩⟩) (fun h => ⟨by decide +kernel, cond_ok h (fun h => cond_ok h (fun h => ret_ok (Q := Q) (e := law02_ShaSteps_enc) h hQ) (fun h => ret_ok (Q := Q) (e := law02_ShaSteps_enc) h hQ)) (fun h => ret_ok (Q := Q) (e := law02_ShaSteps_enc) h hQ)⟩)))
theorem law02_ShaSteps_k0 {r : Bool} {Q : CallOut → Prop} (hQ : Q (law02_ShaSteps_enc r)) : ∀ k : Nat, (∀ (b : List UInt8) (i : Int) (p : List UInt8) (s : Vector UInt32 8), law02_ShaSteps_h0 k b i p s = some r → headP law02_ShaSteps_C law02_ShaSteps_lv [true, true, true, true, false, true, false] law02_ShaSteps_b (law02_ShaSteps_s0 b i p s) (fnK law02_ShaSteps_C law02_ShaSteps_r law02_ShaSteps_hs Q)) ∧ (∀ (b : List UInt8) (i : Int) (k_ : Int) (p : List UInt8) (s : Vector UInt32 8) (part : Vector UInt8 64), law02_ShaSteps_h2 k b i k_ p s part = some r → headP law02_ShaSteps_C law02_ShaSteps_lv [true, true, true, true, false, true, false, false, true, false, false, true, false, true, false] law02_ShaSteps_b (law02_ShaSteps_s2 b i k_ p s part) (fnK law02_ShaSteps_C law02_ShaSteps_r law02_ShaSteps_hs Q))
  | 0 => ⟨fun _ _ _ _ h => no_ok h, fun _ _ _ _ _ _ h => no_ok h⟩
  | k + 1 => ⟨fun b i p s h => headP_step (Eq.mpr (law02_ShaSteps_g0 b i p s Q) (have h := (law02_ShaSteps_h0_q k b i p s).symm.trans h; cond_ok h (fun h => (law02_ShaSteps_k0 hQ k).2 _ _ _ _ _ _ h) (fun h => ite_ok h fun hc0 h => (law02_ShaSteps_k4 hQ _) _ _ _ _ h))),
    fun b i k_ p s part h => headP_step (Eq.mpr (law02_ShaSteps_g2 b i k_ p s part Q) (have h := (law02_ShaSteps_h2_q k b i k_ p s part).symm.trans h; cond_ok h (fun h => ite_ok h fun hc0 h => ite_ok h fun hc1 h => (law02_ShaSteps_k0 hQ k).2 _ _ _ _ _ _ h) (fun h => (law02_ShaSteps_k0 hQ k).1 _ _ _ _ h)))⟩
theorem law02_ShaSteps_e (b : List UInt8) (Q : CallOut → Prop) : evalFnP law02_ShaSteps_C law02_ShaSteps_lv law02_ShaSteps_r law02_ShaSteps_hs law02_ShaSteps_b [.pv (.sl .u8 b)] [] Q =
    (condP (decide ((1000 : Int) < (((List.length b) : Nat) : Int))) ((((0 : Int) ≤ (0 : Int)) ∧ (((0 : Int) ≤ (1000 : Int)) ∧ ((1000 : Int) ≤ (((List.length b) : Nat) : Int)))) ∧ (((List.length (List.take ((Int.toNat (1000 : Int)) - (Int.toNat (0 : Int))) (List.drop (Int.toNat (0 : Int)) b))) ≤ (1099511627776 : Nat)) ∧ (headP law02_ShaSteps_C law02_ShaSteps_lv [true, true, true, true, false, true, false] law02_ShaSteps_b (law02_ShaSteps_s0 (List.take ((Int.toNat (1000 : Int)) - (Int.toNat (0 : Int))) (List.drop (Int.toNat (0 : Int)) b)) (0 : Int) (shaPad (List.take ((Int.toNat (1000 : Int)) - (Int.toNat (0 : Int))) (List.drop (Int.toNat (0 : Int)) b))) sha_Begin) (fnK law02_ShaSteps_C law02_ShaSteps_r law02_ShaSteps_hs Q)))) (((List.length b) ≤ (1099511627776 : Nat)) ∧ (headP law02_ShaSteps_C law02_ShaSteps_lv [true, true, true, true, false, true, false] law02_ShaSteps_b (law02_ShaSteps_s0 b (0 : Int) (shaPad b) sha_Begin) (fnK law02_ShaSteps_C law02_ShaSteps_r law02_ShaSteps_hs Q)))) := by kernel_rfl
theorem law02_ShaSteps_w {k : Nat} (b : List UInt8) {r} {Q : CallOut → Prop} (h : law02_ShaSteps k b = some r) (hQ : Q (law02_ShaSteps_enc r)) : evalFnP law02_ShaSteps_C law02_ShaSteps_lv law02_ShaSteps_r law02_ShaSteps_hs law02_ShaSteps_b [.pv (.sl .u8 b)] [] Q :=
  Eq.mpr (law02_ShaSteps_e b Q) (have h := (law02_ShaSteps_q k b).symm.trans h; cond_ok h (fun h => ite_ok h fun hc0 h => ite_ok h fun hc1 h => (law02_ShaSteps_k0 hQ _).1 _ _ _ _ h) (fun h => ite_ok h fun hc0 h => (law02_ShaSteps_k0 hQ _).1 _ _ _ _ h))
def law02_ShaSteps_c : Ans
  | [.pv (.sl .u8 b)], [] => some (none, law02_ShaSteps_enc (true))
  | _, _ => none
theorem law02_ShaSteps_tok : TblOK Tryd.prog theG law02_ShaSteps_T := .cons ⟨by kernel_rfl, sha_Padded_ok⟩ (.cons ⟨by kernel_rfl, sha_Begin_ok⟩ (.cons ⟨by kernel_rfl, sha_Round_ok⟩ (.cons ⟨by kernel_rfl, sha_Sum_ok⟩ (.cons ⟨by kernel_rfl, law02_works_ok⟩ (.nil)))))
theorem law02_ShaSteps_ok : FnOK Tryd.prog theG 4 (unW law02_ShaSteps_c) := by
  refine FnOK.ofC (T := law02_ShaSteps_T) (nt := 73) (np := 0) (hs := law02_ShaSteps_hs) (fn := Tryd.f4) (body := law02_ShaSteps_b) law02_ShaSteps_tok (by kernel_rfl) (by kernel_rfl) (by kernel_rfl) (by kernel_rfl) (c := law02_ShaSteps_c) (lv := law02_ShaSteps_lv) ?_
  intro xs mem p out h hp
  unfold law02_ShaSteps_c at h
  split at h
  · cases h
    obtain ⟨k, hk⟩ := law02_ShaSteps_spec _
    exact law02_ShaSteps_w _ hk rfl
  · cases h
end
end Go.Proofs.YtkjillpcmffgoaaDoor.M

namespace Go.Proofs.YtkjillpcmffgoaaDoor
open Go Go.ChangeShapes Go.WideShapes Go.ChangeAt Go.RowKit
open Go.Proofs.YtkjillpcmffgoaaDoor
theorem law02_ShaSteps_own : ownKnob Tryd.prog.godebug = none := by kernel_rfl
theorem law02_ShaSteps_law : ∀ ys : List M.PV, M.FitL [.sl .u8] ys → ∃ p out, M.law02_ShaSteps_c (ys.map .pv) [] = some (p, out) ∧ p.h ∧ out.val = .pv (.sc .b true) := by
  rintro ys ⟨_, _, rfl, ⟨x0, rfl, hx0, lx0⟩, rfl⟩
  exact ⟨_, _, rfl, trivial, rfl⟩
set_option maxRecDepth 100000 in
theorem law02_ShaSteps_lifted (os : Os) (started : os.Started) (H : Type) (enc : TypeId × Value → H) :
    ReturnsInHanded {} Tryd.checked os 4 .any (fun w args => (Rows.shaStepsSpec.pre enc Tryd.prog Tryd.f4 [] false w args ∧ laidMetH Tryd.prog Rows.shaStepsRow.laid w) ∧ sizedMet enc Tryd.prog Tryd.f4 (OpenSpec.ofChange Rows.shaStepsSpec) false w args)
      (Rows.shaStepsSpec.post enc Tryd.prog Tryd.f4 false true false false) := by
  refine returnsInHanded_of_change_and (C := Tryd.checked) (X := fun w _ => laidMetH Tryd.prog Rows.shaStepsRow.laid w) (fun _ _ _ hh h => h.of_heap hh) law02_ShaSteps_own started (by kernel_rfl) (by kernel_rfl)
    (ChangeSpec.witness_shaped (enc := enc) (C := Tryd.checked) (os := os) (X := fun w _ => laidMetH Tryd.prog Rows.shaStepsRow.laid w) false (World.laidAll Tryd.prog os Rows.shaStepsRow.laid) #[.slice none 0 0] 8 (World.laidAll_os _ _ _)
      (World.shaped_of_ZipB (by kernel_rfl) (by kernel_rfl)) (by kernel_rfl) (by kernel_rfl) (by kernel_rfl)
      (by rw [MakeChecks.laidMetH_plain _ _ _ (by kernel_rfl)]; exact laidMet_laidAll _ (by kernel_rfl) (by kernel_rfl))) ?_
  intro W base args ds gs before hval hW _ hsz hL _
  exact M.law_contract (ss := [.sl .u8]) (G := M.theG) (c := M.law02_ShaSteps_c) (tb := 4) rfl (fun ds h => by
      match ds, h with
      | [d0], _ => rfl) (by kernel_rfl) (by kernel_rfl) (by kernel_rfl) (by kernel_rfl) (by kernel_rfl) M.law02_ShaSteps_ok law02_ShaSteps_law hval hW hsz (M.globs (by rwa [MakeChecks.laidMetH_plain _ _ _ (by kernel_rfl)] at hL))
theorem shaSteps_row : Rows.ShaStepsSaid :=
  OpenClaim.holds_of_wide 4 Tryd.f4 rfl rfl rfl rfl rfl rfl rfl ⟨rfl, rfl, rfl, rfl, rfl⟩ rfl rfl rfl rfl rfl (by kernel_rfl) (by kernel_rfl) (by kernel_rfl)
    (of_decide_eq_true (by kernel_rfl)) (by unfold Func.isWrapper; first | (rw [if_pos (by decide +kernel)]; kernel_rfl) | (rw [if_neg (by decide +kernel)]; exact ⟨rfl, rfl⟩))
    (fun os started H enc _ => law02_ShaSteps_lifted os started H enc)
theorem shaSteps_card : Rows.ShaStepsCardSaid :=
  Claim7.holds_tied_plain_at .later [] [.data] true (true, "309ffbb7a45fc8f63b017b00e1d958320a56bfcbda7dd92db1a0903d53958375") false shaSteps_row (fun _ h => by cases h) (by kernel_rfl) (fun _ h => by cases h) shaSteps_row_tie rfl ⟨rfl, rfl⟩ (by kernel_rfl) rfl
    (fun f fn hf hfn => by
      obtain rfl : f = 4 := Option.some.inj ((show Tryd.prog.funcNamed "moneyer/moneyerlaw02.ShaSteps" = some 4 by kernel_rfl).symm.trans hf) |>.symm
      obtain rfl : fn = Tryd.f4 := (Option.some.inj ((show Tryd.prog.funcs[4]? = some Tryd.f4 by kernel_rfl).symm.trans hfn)).symm
      exact ⟨by kernel_rfl, fun j t ht => by
        have hp : Tryd.f4.params = #[29] := by kernel_rfl
        rw [hp] at ht
        have hm : t ∈ [29] := by simpa using Array.mem_of_getElem? ht
        have hall : ([29].all fun u => !Tryd.prog.wantsStandIn u) = true := by kernel_rfl
        exact (show Tryd.prog.wantsStandIn t = false by simpa using List.all_eq_true.1 hall t hm)⟩)
    (by kernel_rfl)
#print axioms shaSteps_card
end Go.Proofs.YtkjillpcmffgoaaDoor
