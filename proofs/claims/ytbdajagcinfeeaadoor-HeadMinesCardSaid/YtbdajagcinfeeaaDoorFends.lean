/- Part of the proofs: what functions of the program do: plain functions, and the walks that show it. No condition. -/
import Derived.KernelRfl
import Derived.Test.YtbdajagcinfeeaaDoorProg
import Derived.Test.YtbdajagcinfeeaaDoorLe
import Derived.Test.YtbdajagcinfeeaaDoorSwords
import Derived.Test.YtbdajagcinfeeaaDoorSshaS
import Derived.Test.YtbdajagcinfeeaaDoorSbigS
import Derived.Test.YtbdajagcinfeeaaDoorSendS
import Derived.Test.YtbdajagcinfeeaaDoorStarS
import Derived.Test.YtbdajagcinfeeaaDoorSshaK
set_option linter.unusedVariables false
set_option linter.unusedSimpArgs false
set_option autoImplicit false
namespace Go.Proofs.YtbdajagcinfeeaaDoor.M
open Go
noncomputable section
/-- moneyer/ends.size -/
def ends_size (n : Int) : Bool :=
  bif eqb (decide (n = (1 : Int))) false then (bif eqb (bif false then true else (decide (n = (2 : Int)))) false then (bif eqb (bif false then true else (decide (n = (4 : Int)))) false then ((bif false then true else (decide (n = (8 : Int)))))
        else (true))
      else (true))
    else (true)
theorem ends_size_q (n : Int) : ends_size n = (bif eqb (decide (n = (1 : Int))) false then (bif eqb (bif false then true else (decide (n = (2 : Int)))) false then (bif eqb (bif false then true else (decide (n = (4 : Int)))) false then ((bif false then true else (decide (n = (8 : Int)))))
        else (true))
      else (true))
    else (true)) := by kernel_rfl
theorem ends_size_spec (n : Int) : ends_size n = sizeB n := by
  rw [ends_size]
  unfold sizeB
  by_cases h1 : n = 1
  · subst h1; rfl
  · by_cases h2 : n = 2
    · subst h2; rfl
    · by_cases h4 : n = 4
      · subst h4; rfl
      · by_cases h8 : n = 8
        · subst h8; rfl
        · simp [h1, h2, h4, h8, eqb]

end
end Go.Proofs.YtbdajagcinfeeaaDoor.M

namespace Go.Proofs.YtbdajagcinfeeaaDoor.M
open Go
noncomputable section
/-- the loop 0 of moneyer/ends.low -/
def ends_low_h0 : Nat → UInt64 → Int → Int → (List UInt8) → Option (List UInt8)
  | 0, _, _, _, _ => none
  | k + 1, n, t10, t11, b => bif decide (t11 < t10) then (if (0 : Int) ≤ (w64 ((8 : Int) * t11)) then
        if ((0 : Int) ≤ t11) ∧ (t11 < (((List.length b) : Nat) : Int)) then
          ends_low_h0 k n t10 (w64 (t11 + (1 : Int))) (List.set b (Int.toNat t11) (UInt64.toUInt8 (shr_u64 n (Int.toNat (w64 ((8 : Int) * t11))))))
        else none
      else none)
      else (some b)
theorem ends_low_h0_q (k : Nat) (n : UInt64) (t10 : Int) (t11 : Int) (b : List UInt8) : ends_low_h0 (k + 1) n t10 t11 b =
  (bif decide (t11 < t10) then (if (0 : Int) ≤ (w64 ((8 : Int) * t11)) then
        if ((0 : Int) ≤ t11) ∧ (t11 < (((List.length b) : Nat) : Int)) then
          ends_low_h0 k n t10 (w64 (t11 + (1 : Int))) (List.set b (Int.toNat t11) (UInt64.toUInt8 (shr_u64 n (Int.toNat (w64 ((8 : Int) * t11))))))
        else none
      else none)
      else (some b)) := by kernel_rfl
/-- moneyer/ends.low -/
def ends_low (k : Nat) (n : UInt64) (many : Int) : Option (List UInt8) :=
  if ((0 : Int) ≤ many) ∧ ((many ≤ many) ∧ (((many * (((1 : Nat) : Nat) : Int)) ≤ (((70368744177664 : Nat) : Nat) : Int)) ∧ (many ≤ ((2 : Int) ^ (62 : Nat))))) then
    ends_low_h0 k n (((List.length (List.replicate (Int.toNat many) (0 : UInt8))) : Nat) : Int) (0 : Int) (List.replicate (Int.toNat many) (0 : UInt8))
  else none
theorem ends_low_q (k : Nat) (n : UInt64) (many : Int) : ends_low k n many = (if ((0 : Int) ≤ many) ∧ ((many ≤ many) ∧ (((many * (((1 : Nat) : Nat) : Int)) ≤ (((70368744177664 : Nat) : Nat) : Int)) ∧ (many ≤ ((2 : Int) ^ (62 : Nat))))) then
    ends_low_h0 k n (((List.length (List.replicate (Int.toNat many) (0 : UInt8))) : Nat) : Int) (0 : Int) (List.replicate (Int.toNat many) (0 : UInt8))
  else none) := by kernel_rfl
theorem ends_low_spec (n : UInt64) (many : Int) (hp : sizeB many = true) : Ev (fun k => ends_low k n many) (lowY n.toNat many.toNat) := by
  have h8 := sizeB_le hp
  obtain ⟨m, rfl⟩ : ∃ m : Nat, many = m := ⟨many.toNat, by omega⟩
  have hm : m ≤ 8 := by omega
  have := Ev.inv (H := fun k i s => ends_low_h0 k n (m : Int) i s) (n := m) (r := lowY n.toNat m) (fun i s => s = lowY n.toNat i ++ List.replicate (m - i) 0)
    (by
      rintro i s hi rfl h
      refine Ev.step (fun k => ?_) (h _ rfl)
      have hl : (lowY n.toNat i ++ List.replicate (m - i) 0).length = m := by rw [List.length_append, lowY_len, List.length_replicate]; omega
      have w8 : w64 ((8 : Int) * (i : Int)) = ((8 * i : Nat) : Int) := by rw [w64_id (by omega) (by omega)]; omega
      have key : List.set (lowY n.toNat i ++ List.replicate (m - i) (0 : UInt8)) i (lowF n.toNat i) = lowY n.toNat (i + 1) ++ List.replicate (m - (i + 1)) 0 := by
        have e : List.replicate (m - i) (0 : UInt8) = 0 :: List.replicate (m - (i + 1)) 0 := by rw [show m - i = (m - (i + 1)) + 1 by omega, List.replicate_succ]
        have hl := lowY_len n.toNat i
        rw [e, lowY_succ, List.append_assoc]
        generalize lowY n.toNat i = l at *
        subst hl
        simp
      rw [ends_low_h0, bif_pos (by omega), w8, if_pos (by omega), if_pos (by omega), w64_id (by omega) (by omega), Int.toNat_natCast, Int.toNat_natCast, shr_low n i (by omega), key])
    (by
      rintro s rfl
      refine Ev.done fun k => ?_
      rw [ends_low_h0, bif_neg (by omega), Nat.sub_self, List.replicate_zero, List.append_nil])
    m 0 (List.replicate m 0) (by omega) (by simp [lowY])
  refine Ev.same (fun k => ?_) this
  rw [ends_low, if_pos ⟨by omega, by omega, by omega, by omega⟩]
  simp

end
end Go.Proofs.YtbdajagcinfeeaaDoor.M

namespace Go.Proofs.YtbdajagcinfeeaaDoor.M
open Go
noncomputable section
/-- moneyer/ends.Put -/
def ends_Put (n : UInt64) (many : Int) : Option (Int × List UInt8) :=
  bif eqb (!(sizeB many)) false then (bif eqb (decide (many < (8 : Int))) true then (if (0 : Int) ≤ (w64 ((8 : Int) * many)) then
        bif bif false then true else (bif true then (decide ((0 : UInt64) < (shr_u64 n (Int.toNat (w64 ((8 : Int) * many)))))) else false) then (some ((2 : Int), ([] : List UInt8)))
          else (if (sizeB many) = true then
            some ((0 : Int), (lowY (UInt64.toNat n) (Int.toNat many)))
          else none)
      else none)
      else (if (sizeB many) = true then
        some ((0 : Int), (lowY (UInt64.toNat n) (Int.toNat many)))
      else none))
    else (some ((2 : Int), ([] : List UInt8)))
theorem ends_Put_q (n : UInt64) (many : Int) : ends_Put n many = (bif eqb (!(sizeB many)) false then (bif eqb (decide (many < (8 : Int))) true then (if (0 : Int) ≤ (w64 ((8 : Int) * many)) then
        bif bif false then true else (bif true then (decide ((0 : UInt64) < (shr_u64 n (Int.toNat (w64 ((8 : Int) * many)))))) else false) then (some ((2 : Int), ([] : List UInt8)))
          else (if (sizeB many) = true then
            some ((0 : Int), (lowY (UInt64.toNat n) (Int.toNat many)))
          else none)
      else none)
      else (if (sizeB many) = true then
        some ((0 : Int), (lowY (UInt64.toNat n) (Int.toNat many)))
      else none))
    else (some ((2 : Int), ([] : List UInt8)))) := by kernel_rfl
theorem ends_Put_spec (n : UInt64) (many : Int) : ends_Put n many = some (putR n many, putL n many) := by
  rw [ends_Put]
  rw [putL_eq]
  unfold putR
  cases hs : sizeB many with
  | false => simp [eqb]
  | true =>
    have h8 := sizeB_le hs
    obtain ⟨m, rfl⟩ : ∃ m : Nat, many = m := ⟨many.toNat, by omega⟩
    by_cases h : m < 8
    · have w8 : w64 ((8 : Int) * (m : Int)) = ((8 * m : Nat) : Int) := by rw [w64_id (by omega) (by omega)]; omega
      rw [decide_eq_true (p := ((m : Nat) : Int) < 8) (by omega), w8, Int.toNat_natCast, Int.toNat_natCast]
      by_cases g : n.toNat < 256 ^ m
      · have e : ¬ ((0 : UInt64) < shr_u64 n (8 * m)) := fun q => by have := (shr_pos n m h).1 q; omega
        rw [decide_eq_false e]
        simp [eqb, g]
        try omega
      · have e : (0 : UInt64) < shr_u64 n (8 * m) := (shr_pos n m h).2 (by omega)
        rw [decide_eq_true e]
        simp [eqb, g]
        try omega
    · have hm : m = 8 := by omega
      subst hm
      have hn := n.toNat_lt
      have g : n.toNat < 256 ^ (8 : Nat) := by omega
      rw [decide_eq_false (p := ((8 : Nat) : Int) < 8) (by omega), Int.toNat_natCast]
      simp [eqb, g]

end
end Go.Proofs.YtbdajagcinfeeaaDoor.M

namespace Go.Proofs.YtbdajagcinfeeaaDoor.M
open Go
noncomputable section
/-- moneyer/ends.Part -/
def ends_Part (b : List UInt8) (at_1 : Int) (n : Int) : Option (Int × List UInt8) :=
  bif eqb (decide (at_1 < (0 : Int))) false then (bif eqb (bif false then true else (decide ((((List.length b) : Nat) : Int) < at_1))) false then (bif bif false then true else (decide (n < (0 : Int))) then (some ((2 : Int), ([] : List UInt8)))
        else (bif decide ((w64 ((((List.length b) : Nat) : Int) - at_1)) < n) then (some ((4 : Int), ([] : List UInt8)))
          else (if ((0 : Int) ≤ at_1) ∧ ((at_1 ≤ (w64 (at_1 + n))) ∧ (((w64 (at_1 + n)) ≤ (w64 (at_1 + n))) ∧ ((w64 (at_1 + n)) ≤ (((List.length b) : Nat) : Int)))) then
            if (((List.length (([] : List UInt8) ++ (List.take ((Int.toNat (w64 (at_1 + n))) - (Int.toNat at_1)) (List.drop (Int.toNat at_1) b)))) * (1 : Nat)) ≤ (70368744177664 : Nat)) ∧ ((List.length (([] : List UInt8) ++ (List.take ((Int.toNat (w64 (at_1 + n))) - (Int.toNat at_1)) (List.drop (Int.toNat at_1) b)))) ≤ (70368744177664 : Nat)) then
              some ((0 : Int), (([] : List UInt8) ++ (List.take ((Int.toNat (w64 (at_1 + n))) - (Int.toNat at_1)) (List.drop (Int.toNat at_1) b))))
            else none
          else none)))
      else (some ((2 : Int), ([] : List UInt8))))
    else (some ((2 : Int), ([] : List UInt8)))
theorem ends_Part_q (b : List UInt8) (at_1 : Int) (n : Int) : ends_Part b at_1 n = (bif eqb (decide (at_1 < (0 : Int))) false then (bif eqb (bif false then true else (decide ((((List.length b) : Nat) : Int) < at_1))) false then (bif bif false then true else (decide (n < (0 : Int))) then (some ((2 : Int), ([] : List UInt8)))
        else (bif decide ((w64 ((((List.length b) : Nat) : Int) - at_1)) < n) then (some ((4 : Int), ([] : List UInt8)))
          else (if ((0 : Int) ≤ at_1) ∧ ((at_1 ≤ (w64 (at_1 + n))) ∧ (((w64 (at_1 + n)) ≤ (w64 (at_1 + n))) ∧ ((w64 (at_1 + n)) ≤ (((List.length b) : Nat) : Int)))) then
            if (((List.length (([] : List UInt8) ++ (List.take ((Int.toNat (w64 (at_1 + n))) - (Int.toNat at_1)) (List.drop (Int.toNat at_1) b)))) * (1 : Nat)) ≤ (70368744177664 : Nat)) ∧ ((List.length (([] : List UInt8) ++ (List.take ((Int.toNat (w64 (at_1 + n))) - (Int.toNat at_1)) (List.drop (Int.toNat at_1) b)))) ≤ (70368744177664 : Nat)) then
              some ((0 : Int), (([] : List UInt8) ++ (List.take ((Int.toNat (w64 (at_1 + n))) - (Int.toNat at_1)) (List.drop (Int.toNat at_1) b))))
            else none
          else none)))
      else (some ((2 : Int), ([] : List UInt8))))
    else (some ((2 : Int), ([] : List UInt8)))) := by kernel_rfl
theorem ends_Part_spec (b : List UInt8) (at_ n : Int) (hp : b.length ≤ 140737488351232 ∧ n ≤ 70368744177664) : ends_Part b at_ n = some (partE b at_ n, partL b at_ n) := by
  rw [ends_Part]
  by_cases h1 : at_ < 0
  · have e : partE b at_ n = 2 := by rw [partE_eq, if_pos (.inl h1)]
    rw [decide_eq_true h1, partL_eq, e]; rfl
  · by_cases h2 : (b.length : Int) < at_
    · have e : partE b at_ n = 2 := by rw [partE_eq, if_pos (.inr (.inl h2))]
      rw [decide_eq_false h1, decide_eq_true h2, partL_eq, e]; rfl
    · by_cases h3 : n < 0
      · have e : partE b at_ n = 2 := by rw [partE_eq, if_pos (.inr (.inr h3))]
        rw [decide_eq_false h1, decide_eq_false h2, decide_eq_true h3, partL_eq, e]; rfl
      · have w1 : w64 ((b.length : Int) - at_) = (b.length : Int) - at_ := w64_id (by omega) (by omega)
        rw [decide_eq_false h1, decide_eq_false h2, decide_eq_false h3, w1]
        by_cases h4 : (b.length : Int) - at_ < n
        · have e : partE b at_ n = 4 := by rw [partE_eq, if_neg (by omega), if_pos h4]
          rw [decide_eq_true h4, partL_eq, e]; rfl
        · have e : partE b at_ n = 0 := by rw [partE_eq, if_neg (by omega), if_neg h4]
          have w2 : w64 (at_ + n) = at_ + n := w64_id (by omega) (by omega)
          rw [decide_eq_false h4, partL_eq, e, w2]
          simp only [eqb, Bool.not_false, cond_true, cond_false]
          have e2 : (at_ + n).toNat - at_.toNat = n.toNat := by omega
          rw [if_pos ⟨by omega, by omega, by omega, by omega⟩, if_pos (by rw [List.nil_append, List.length_take, List.length_drop]; omega), List.nil_append, e2, if_pos trivial]

end
end Go.Proofs.YtbdajagcinfeeaaDoor.M

namespace Go.Proofs.YtbdajagcinfeeaaDoor.M
open Go
noncomputable section
/-- the loop 0 of moneyer/ends.Get -/
def ends_Get_h0 : Nat → UInt64 → Int → Int → (List UInt8) → Option (UInt64 × Int)
  | 0, _, _, _, _ => none
  | k + 1, n, t27, t28, t26 => bif decide (t28 < t27) then (if ((0 : Int) ≤ t28) ∧ (t28 < (((List.length t26) : Nat) : Int)) then
        if (0 : Int) ≤ (w64 ((8 : Int) * t28)) then
          ends_Get_h0 k (n ||| (shl_u64 (UInt8.toUInt64 (List.getD t26 (Int.toNat t28) (0 : UInt8))) (Int.toNat (w64 ((8 : Int) * t28))))) t27 (w64 (t28 + (1 : Int))) t26
        else none
      else none)
      else (some (n, (0 : Int)))
theorem ends_Get_h0_q (k : Nat) (n : UInt64) (t27 : Int) (t28 : Int) (t26 : List UInt8) : ends_Get_h0 (k + 1) n t27 t28 t26 =
  (bif decide (t28 < t27) then (if ((0 : Int) ≤ t28) ∧ (t28 < (((List.length t26) : Nat) : Int)) then
        if (0 : Int) ≤ (w64 ((8 : Int) * t28)) then
          ends_Get_h0 k (n ||| (shl_u64 (UInt8.toUInt64 (List.getD t26 (Int.toNat t28) (0 : UInt8))) (Int.toNat (w64 ((8 : Int) * t28))))) t27 (w64 (t28 + (1 : Int))) t26
        else none
      else none)
      else (some (n, (0 : Int)))) := by kernel_rfl
/-- moneyer/ends.Get -/
def ends_Get (k : Nat) (b : List UInt8) (at_1 : Int) (many : Int) : Option (UInt64 × Int) :=
  bif !(sizeB many) then (some ((0 : UInt64), (2 : Int)))
    else (if ((List.length b) ≤ (140737488351232 : Nat)) ∧ (many ≤ (70368744177664 : Int)) then
      bif !(decide ((partE b at_1 many) = (0 : Int))) then (some ((0 : UInt64), (partE b at_1 many)))
        else (ends_Get_h0 k (0 : UInt64) (((List.length (partL b at_1 many)) : Nat) : Int) (0 : Int) (partL b at_1 many))
    else none)
theorem ends_Get_q (k : Nat) (b : List UInt8) (at_1 : Int) (many : Int) : ends_Get k b at_1 many = (bif !(sizeB many) then (some ((0 : UInt64), (2 : Int)))
    else (if ((List.length b) ≤ (140737488351232 : Nat)) ∧ (many ≤ (70368744177664 : Int)) then
      bif !(decide ((partE b at_1 many) = (0 : Int))) then (some ((0 : UInt64), (partE b at_1 many)))
        else (ends_Get_h0 k (0 : UInt64) (((List.length (partL b at_1 many)) : Nat) : Int) (0 : Int) (partL b at_1 many))
    else none)) := by kernel_rfl
theorem ends_Get_gen (p : List UInt8) (hl : p.length ≤ 8) : Ev (fun k => ends_Get_h0 k 0 ((p.length : Nat) : Int) 0 p) (UInt64.ofNat (valN p), (0 : Int)) := by
  refine Ev.inv (H := fun k i (s : UInt64) => ends_Get_h0 k s ((p.length : Nat) : Int) i p) (n := p.length) (fun i s => s.toNat = valN (p.take i)) ?_ ?_ p.length 0 0 (by omega) rfl
  · intro i s hi hv h
    have hx : p.take (i + 1) = p.take i ++ [p.getD i 0] := by
      rw [List.take_succ_eq_append_getElem hi]
      simp [List.getD, hi]
    have hlt : valN (p.take i) < 2 ^ (8 * i) := by
      have := valN_lt (p.take i)
      rw [List.length_take, show min i p.length = i by omega] at this
      rw [Nat.pow_mul]
      exact this
    have w8 : w64 ((8 : Int) * (i : Int)) = ((8 * i : Nat) : Int) := by rw [w64_id (by omega) (by omega)]; omega
    have hb := (p.getD i 0).toNat_lt
    have h64 : (p.getD i 0).toNat * 2 ^ (8 * i) < 2 ^ 64 := by
      have : 2 ^ (8 * i) ≤ 2 ^ 56 := Nat.pow_le_pow_right (by decide) (by omega)
      have h2 : (p.getD i 0).toNat * 2 ^ (8 * i) ≤ 255 * 2 ^ 56 := Nat.mul_le_mul (by omega) this
      omega
    refine Ev.step (fun k => ?_) (h (s ||| shl_u64 (UInt8.toUInt64 (p.getD i 0)) (8 * i)) ?_)
    · rw [ends_Get_h0, bif_pos (by omega), if_pos (by omega), w8, if_pos (by omega), w64_id (by omega) (by omega)]
      rfl
    · unfold shl_u64
      rw [UInt64.toNat_or, UInt64.toNat_ofNat', hv, UInt8.toNat_toUInt64, show min (8 * i) 64 = 8 * i by omega, Nat.mod_eq_of_lt h64, or_low _ _ _ hlt, hx, valN_app, List.length_take, show min i p.length = i by omega, Nat.pow_mul]
      show _ = _ + 256 ^ i * ((p.getD i 0).toNat + 256 * 0)
      rw [Nat.mul_zero, Nat.add_zero, Nat.mul_comm]
  · intro s hv
    refine Ev.done fun k => ?_
    rw [ends_Get_h0, bif_neg (by omega)]
    rw [List.take_length] at hv
    rw [← hv, UInt64.ofNat_toNat]
theorem ends_Get_spec (b : List UInt8) (at_ many : Int) (hp : b.length ≤ 140737488351232) : Ev (fun k => ends_Get k b at_ many) (getN b at_ many, getE b at_ many) := by
  cases hs : sizeB many with
  | false =>
    have e : getE b at_ many = 2 := by rw [getE_eq, hs]; rfl
    rw [getN_eq, e]
    exact Ev.done fun k => by rw [ends_Get, hs]; rfl
  | true =>
    have h8 := sizeB_le hs
    have e : getE b at_ many = partE b at_ many := by rw [getE_eq, hs]; rfl
    rw [getN_eq, e]
    by_cases h : partE b at_ many = 0
    · have := ends_Get_gen (partL b at_ many) (by rw [partL_len h]; omega)
      rw [if_pos h, h]
      refine Ev.same (fun k => ?_) this
      rw [ends_Get, hs, if_pos ⟨hp, by omega⟩, decide_eq_true h]
      rfl
    · rw [if_neg h]
      exact Ev.done fun k => by rw [ends_Get, hs, if_pos ⟨hp, by omega⟩, decide_eq_false h]; rfl

end
end Go.Proofs.YtbdajagcinfeeaaDoor.M

namespace Go.Proofs.YtbdajagcinfeeaaDoor.M
open Go
noncomputable section
set_option maxRecDepth 100000
set_option maxHeartbeats 0
noncomputable def ends_size_T : Tbl := []
noncomputable def ends_size_C : CfgW := mkC Tryd.prog theG ends_size_T 17 0 false
def ends_size_lv : Nat → List Nat := fun i => []
noncomputable abbrev ends_size_b : Code := Tryd.f67.body.getD .skip
noncomputable abbrev ends_size_r : List ResultVar := Tryd.f67.results.toList
def ends_size_hs : List Nat := []

def ends_size_enc (r : Bool) : CallOut := ⟨.pv (.sc .b r), [], true, []⟩
theorem ends_size_e (n : Int) (Q : CallOut → Prop) : evalFnP ends_size_C ends_size_lv ends_size_r ends_size_hs ends_size_b [.pv (.sc .i n)] [] Q =
    (condP (eqb (decide (n = (1 : Int))) false) (condP (eqb (bif false then true else (decide (n = (2 : Int)))) false) (condP (eqb (bif false then true else (decide (n = (4 : Int)))) false) (Q (ends_size_enc (bif false then true else (decide (n = (8 : Int)))))) (Q (ends_size_enc true))) (Q (ends_size_enc true))) (Q (ends_size_enc true))) := by kernel_rfl
theorem ends_size_w (n : Int) {Q : CallOut → Prop} (h : Q (ends_size_enc (ends_size n))) : evalFnP ends_size_C ends_size_lv ends_size_r ends_size_hs ends_size_b [.pv (.sc .i n)] [] Q :=
  Eq.mpr (ends_size_e n Q) (have h := Eq.mp (congrArg (fun r => Q (ends_size_enc r)) (ends_size_q n)) h; cond_ok2 (Q := fun r => Q (ends_size_enc r)) h (fun h => cond_ok2 (Q := fun r => Q (ends_size_enc r)) h (fun h => cond_ok2 (Q := fun r => Q (ends_size_enc r)) h (fun h => h) (fun h => h)) (fun h => h)) (fun h => h))
def ends_size_c : Ans
  | [.pv (.sc .i n)], [] => some (none, ends_size_enc (sizeB n))
  | _, _ => none
theorem ends_size_tok : TblOK Tryd.prog theG ends_size_T := .nil
theorem ends_size_ok : FnOK Tryd.prog theG 67 (unW ends_size_c) := by
  refine FnOK.ofC (T := ends_size_T) (nt := 17) (np := 0) (mv := []) (nf := false) (hs := ends_size_hs) (fn := Tryd.f67) (body := ends_size_b) ends_size_tok (by kernel_rfl) (by kernel_rfl) (by kernel_rfl) (by kernel_rfl) (c := ends_size_c) (lv := ends_size_lv) ?_
  intro xs mem p out h hp
  unfold ends_size_c at h
  split at h
  · cases h
    exact ends_size_w _ (congrArg ends_size_enc (ends_size_spec _))
  · cases h
end
end Go.Proofs.YtbdajagcinfeeaaDoor.M

namespace Go.Proofs.YtbdajagcinfeeaaDoor.M
open Go
noncomputable section
set_option maxRecDepth 100000
set_option maxHeartbeats 0
noncomputable def ends_low_T : Tbl := []
noncomputable def ends_low_C : CfgW := mkC Tryd.prog theG ends_low_T 24 0 false
def ends_low_lv : Nat → List Nat := fun i => bif Nat.beq i 0 then [0, 5, 10, 11] else []
noncomputable abbrev ends_low_b : Code := Tryd.f79.body.getD .skip
noncomputable abbrev ends_low_r : List ResultVar := Tryd.f79.results.toList
def ends_low_hs : List Nat := []

def ends_low_enc (r : List UInt8) : CallOut := ⟨.o 60000, [(60000, .row (.s .u8 r) false)], true, []⟩
def ends_low_s0 (n : UInt64) (t10 : Int) (t11 : Int) (b : List UInt8) : St := ⟨[(0, .pv (.sc .u64 n)), (5, .o 60000), (10, .pv (.sc .i t10)), (11, .pv (.sc .i t11))], [(60000, .row (.s .u8 b) true)]⟩
theorem ends_low_g0 (n : UInt64) (t10 : Int) (t11 : Int) (b : List UInt8) (Q : CallOut → Prop) : headRound ends_low_C ends_low_lv [true, true, false, true, false] ends_low_b (ends_low_s0 n t10 t11 b) (fnK ends_low_C ends_low_r ends_low_hs Q) =
    (condP (decide (t11 < t10)) (((0 : Int) ≤ (w64 ((8 : Int) * t11))) ∧ ((((0 : Int) ≤ t11) ∧ (t11 < (((List.length b) : Nat) : Int))) ∧ (headP ends_low_C ends_low_lv [true, true, false, true, false] ends_low_b (ends_low_s0 n t10 (w64 (t11 + (1 : Int))) (List.set b (Int.toNat t11) (UInt64.toUInt8 (shr_u64 n (Int.toNat (w64 ((8 : Int) * t11))))))) (fnK ends_low_C ends_low_r ends_low_hs Q)))) (Q (ends_low_enc b))) := by kernel_rfl
theorem ends_low_k0 {r : List UInt8} {Q : CallOut → Prop} (hQ : Q (ends_low_enc r)) : ∀ k : Nat, (∀ (n : UInt64) (t10 : Int) (t11 : Int) (b : List UInt8), ends_low_h0 k n t10 t11 b = some r → headP ends_low_C ends_low_lv [true, true, false, true, false] ends_low_b (ends_low_s0 n t10 t11 b) (fnK ends_low_C ends_low_r ends_low_hs Q))
  | 0 => fun _ _ _ _ h => no_ok h
  | k + 1 => fun n t10 t11 b h => headP_step (Eq.mpr (ends_low_g0 n t10 t11 b Q) (have h := (ends_low_h0_q k n t10 t11 b).symm.trans h; cond_ok h (fun h => ite_ok h fun hc0 h => ite_ok h fun hc1 h => (ends_low_k0 hQ k) _ _ _ _ h) (fun h => ret_ok (Q := Q) (e := ends_low_enc) h hQ)))
theorem ends_low_e (n : UInt64) (many : Int) (Q : CallOut → Prop) : evalFnP ends_low_C ends_low_lv ends_low_r ends_low_hs ends_low_b [.pv (.sc .u64 n), .pv (.sc .i many)] [] Q =
    ((((0 : Int) ≤ many) ∧ ((many ≤ many) ∧ (((many * (((1 : Nat) : Nat) : Int)) ≤ (((70368744177664 : Nat) : Nat) : Int)) ∧ (many ≤ ((2 : Int) ^ (62 : Nat)))))) ∧ (headP ends_low_C ends_low_lv [true, true, false, true, false] ends_low_b (ends_low_s0 n (((List.length (List.replicate (Int.toNat many) (0 : UInt8))) : Nat) : Int) (0 : Int) (List.replicate (Int.toNat many) (0 : UInt8))) (fnK ends_low_C ends_low_r ends_low_hs Q))) := by kernel_rfl
theorem ends_low_w {k : Nat} (n : UInt64) (many : Int) {r} {Q : CallOut → Prop} (h : ends_low k n many = some r) (hQ : Q (ends_low_enc r)) : evalFnP ends_low_C ends_low_lv ends_low_r ends_low_hs ends_low_b [.pv (.sc .u64 n), .pv (.sc .i many)] [] Q :=
  Eq.mpr (ends_low_e n many Q) (have h := (ends_low_q k n many).symm.trans h; ite_ok h fun hc0 h => (ends_low_k0 hQ _) _ _ _ _ h)
def ends_low_c : Ans
  | [.pv (.sc .u64 n), .pv (.sc .i many)], [] => some (some (sizeB many = true), ends_low_enc (lowY n.toNat many.toNat))
  | _, _ => none
theorem ends_low_tok : TblOK Tryd.prog theG ends_low_T := .nil
theorem ends_low_ok : FnOK Tryd.prog theG 79 (unW ends_low_c) := by
  refine FnOK.ofC (T := ends_low_T) (nt := 24) (np := 0) (mv := []) (nf := false) (hs := ends_low_hs) (fn := Tryd.f79) (body := ends_low_b) ends_low_tok (by kernel_rfl) (by kernel_rfl) (by kernel_rfl) (by kernel_rfl) (c := ends_low_c) (lv := ends_low_lv) ?_
  intro xs mem p out h hp
  unfold ends_low_c at h
  split at h
  · cases h
    obtain ⟨k, hk⟩ := ends_low_spec _ _ hp
    exact ends_low_w _ _ hk rfl
  · cases h
end
end Go.Proofs.YtbdajagcinfeeaaDoor.M

namespace Go.Proofs.YtbdajagcinfeeaaDoor.M
open Go
noncomputable section
set_option maxRecDepth 100000
set_option maxHeartbeats 0
noncomputable def ends_Put_T : Tbl := [(67, [], ends_size_c), (79, [], ends_low_c)]
noncomputable def ends_Put_C : CfgW := mkC Tryd.prog theG ends_Put_T 23 0 false
def ends_Put_lv : Nat → List Nat := fun i => []
noncomputable abbrev ends_Put_b : Code := Tryd.f59.body.getD .skip
noncomputable abbrev ends_Put_r : List ResultVar := Tryd.f59.results.toList
def ends_Put_hs : List Nat := []

def ends_Put_enc (r : Int × List UInt8) : CallOut := ⟨.tup [.o 60000, .pv (.sc .i r.1)], [(60000, .row (.s .u8 r.2) false)], true, []⟩
theorem ends_Put_e (n : UInt64) (many : Int) (Q : CallOut → Prop) : evalFnP ends_Put_C ends_Put_lv ends_Put_r ends_Put_hs ends_Put_b [.pv (.sc .u64 n), .pv (.sc .i many)] [] Q =
    (condP (eqb (!(sizeB many)) false) (condP (eqb (decide (many < (8 : Int))) true) (((0 : Int) ≤ (w64 ((8 : Int) * many))) ∧ (condP (bif false then true else (bif true then (decide ((0 : UInt64) < (shr_u64 n (Int.toNat (w64 ((8 : Int) * many)))))) else false)) (Q (ends_Put_enc ((2 : Int), ([] : List UInt8)))) (((sizeB many) = true) ∧ (Q (ends_Put_enc ((0 : Int), (lowY (UInt64.toNat n) (Int.toNat many)))))))) (((sizeB many) = true) ∧ (Q (ends_Put_enc ((0 : Int), (lowY (UInt64.toNat n) (Int.toNat many))))))) (Q (ends_Put_enc ((2 : Int), ([] : List UInt8))))) := by kernel_rfl
theorem ends_Put_w (n : UInt64) (many : Int) {r} {Q : CallOut → Prop} (h : ends_Put n many = some r) (hQ : Q (ends_Put_enc r)) : evalFnP ends_Put_C ends_Put_lv ends_Put_r ends_Put_hs ends_Put_b [.pv (.sc .u64 n), .pv (.sc .i many)] [] Q :=
  Eq.mpr (ends_Put_e n many Q) (have h := (ends_Put_q n many).symm.trans h; cond_ok h (fun h => cond_ok h (fun h => ite_ok h fun hc0 h => cond_ok h (fun h => ret_ok (Q := Q) (e := ends_Put_enc) h hQ) (fun h => ite_ok h fun hc1 h => ret_ok (Q := Q) (e := ends_Put_enc) h hQ)) (fun h => ite_ok h fun hc0 h => ret_ok (Q := Q) (e := ends_Put_enc) h hQ)) (fun h => ret_ok (Q := Q) (e := ends_Put_enc) h hQ))
def ends_Put_c : Ans
  | [.pv (.sc .u64 n), .pv (.sc .i many)], [] => some (none, ends_Put_enc ((putR n many, putL n many)))
  | _, _ => none
theorem ends_Put_tok : TblOK Tryd.prog theG ends_Put_T := .cons ⟨by kernel_rfl, ends_size_ok⟩ (.cons ⟨by kernel_rfl, ends_low_ok⟩ (.nil))
theorem ends_Put_ok : FnOK Tryd.prog theG 59 (unW ends_Put_c) := by
  refine FnOK.ofC (T := ends_Put_T) (nt := 23) (np := 0) (mv := []) (nf := false) (hs := ends_Put_hs) (fn := Tryd.f59) (body := ends_Put_b) ends_Put_tok (by kernel_rfl) (by kernel_rfl) (by kernel_rfl) (by kernel_rfl) (c := ends_Put_c) (lv := ends_Put_lv) ?_
  intro xs mem p out h hp
  unfold ends_Put_c at h
  split at h
  · cases h
    exact ends_Put_w _ _ (ends_Put_spec _ _) rfl
  · cases h
end
end Go.Proofs.YtbdajagcinfeeaaDoor.M

namespace Go.Proofs.YtbdajagcinfeeaaDoor.M
open Go
noncomputable section
set_option maxRecDepth 100000
set_option maxHeartbeats 0
noncomputable def ends_Part_T : Tbl := []
noncomputable def ends_Part_C : CfgW := mkC Tryd.prog theG ends_Part_T 38 0 false
def ends_Part_lv : Nat → List Nat := fun i => []
noncomputable abbrev ends_Part_b : Code := Tryd.f49.body.getD .skip
noncomputable abbrev ends_Part_r : List ResultVar := Tryd.f49.results.toList
def ends_Part_hs : List Nat := []

def ends_Part_enc (r : Int × List UInt8) : CallOut := ⟨.tup [.o 60000, .pv (.sc .i r.1)], [(60000, .row (.s .u8 r.2) false)], true, []⟩
theorem ends_Part_e (b : List UInt8) (at_1 : Int) (n : Int) (Q : CallOut → Prop) : evalFnP ends_Part_C ends_Part_lv ends_Part_r ends_Part_hs ends_Part_b [.pv (.sl .u8 b), .pv (.sc .i at_1), .pv (.sc .i n)] [] Q =
    (condP (eqb (decide (at_1 < (0 : Int))) false) (condP (eqb (bif false then true else (decide ((((List.length b) : Nat) : Int) < at_1))) false) (condP (bif false then true else (decide (n < (0 : Int)))) (Q (ends_Part_enc ((2 : Int), ([] : List UInt8)))) (condP (decide ((w64 ((((List.length b) : Nat) : Int) - at_1)) < n)) (Q (ends_Part_enc ((4 : Int), ([] : List UInt8)))) ((((0 : Int) ≤ at_1) ∧ ((at_1 ≤ (w64 (at_1 + n))) ∧ (((w64 (at_1 + n)) ≤ (w64 (at_1 + n))) ∧ ((w64 (at_1 + n)) ≤ (((List.length b) : Nat) : Int))))) ∧ (((((List.length (([] : List UInt8) ++ (List.take ((Int.toNat (w64 (at_1 + n))) - (Int.toNat at_1)) (List.drop (Int.toNat at_1) b)))) * (1 : Nat)) ≤ (70368744177664 : Nat)) ∧ ((List.length (([] : List UInt8) ++ (List.take ((Int.toNat (w64 (at_1 + n))) - (Int.toNat at_1)) (List.drop (Int.toNat at_1) b)))) ≤ (70368744177664 : Nat))) ∧ (Q (ends_Part_enc ((0 : Int), (([] : List UInt8) ++ (List.take ((Int.toNat (w64 (at_1 + n))) - (Int.toNat at_1)) (List.drop (Int.toNat at_1) b)))))))))) (Q (ends_Part_enc ((2 : Int), ([] : List UInt8))))) (Q (ends_Part_enc ((2 : Int), ([] : List UInt8))))) := by kernel_rfl
theorem ends_Part_w (b : List UInt8) (at_1 : Int) (n : Int) {r} {Q : CallOut → Prop} (h : ends_Part b at_1 n = some r) (hQ : Q (ends_Part_enc r)) : evalFnP ends_Part_C ends_Part_lv ends_Part_r ends_Part_hs ends_Part_b [.pv (.sl .u8 b), .pv (.sc .i at_1), .pv (.sc .i n)] [] Q :=
  Eq.mpr (ends_Part_e b at_1 n Q) (have h := (ends_Part_q b at_1 n).symm.trans h; cond_ok h (fun h => cond_ok h (fun h => cond_ok h (fun h => ret_ok (Q := Q) (e := ends_Part_enc) h hQ) (fun h => cond_ok h (fun h => ret_ok (Q := Q) (e := ends_Part_enc) h hQ) (fun h => ite_ok h fun hc0 h => ite_ok h fun hc1 h => ret_ok (Q := Q) (e := ends_Part_enc) h hQ))) (fun h => ret_ok (Q := Q) (e := ends_Part_enc) h hQ)) (fun h => ret_ok (Q := Q) (e := ends_Part_enc) h hQ))
def ends_Part_c : Ans
  | [.pv (.sl .u8 b), .pv (.sc .i at_1), .pv (.sc .i n)], [] => some (some (b.length ≤ 140737488351232 ∧ n ≤ 70368744177664), ends_Part_enc ((partE b at_1 n, partL b at_1 n)))
  | _, _ => none
theorem ends_Part_tok : TblOK Tryd.prog theG ends_Part_T := .nil
theorem ends_Part_ok : FnOK Tryd.prog theG 49 (unW ends_Part_c) := by
  refine FnOK.ofC (T := ends_Part_T) (nt := 38) (np := 0) (mv := []) (nf := false) (hs := ends_Part_hs) (fn := Tryd.f49) (body := ends_Part_b) ends_Part_tok (by kernel_rfl) (by kernel_rfl) (by kernel_rfl) (by kernel_rfl) (c := ends_Part_c) (lv := ends_Part_lv) ?_
  intro xs mem p out h hp
  unfold ends_Part_c at h
  split at h
  · cases h
    exact ends_Part_w _ _ _ (ends_Part_spec _ _ _ hp) rfl
  · cases h
end
end Go.Proofs.YtbdajagcinfeeaaDoor.M

namespace Go.Proofs.YtbdajagcinfeeaaDoor.M
open Go
noncomputable section
set_option maxRecDepth 100000
set_option maxHeartbeats 0
noncomputable def ends_Get_T : Tbl := [(67, [], ends_size_c), (49, [], ends_Part_c)]
noncomputable def ends_Get_C : CfgW := mkC Tryd.prog theG ends_Get_T 42 0 false
def ends_Get_lv : Nat → List Nat := fun i => bif Nat.beq i 0 then [10, 26, 27, 28] else []
noncomputable abbrev ends_Get_b : Code := Tryd.f51.body.getD .skip
noncomputable abbrev ends_Get_r : List ResultVar := Tryd.f51.results.toList
def ends_Get_hs : List Nat := []

def ends_Get_enc (r : UInt64 × Int) : CallOut := ⟨.tup [.pv (.sc .u64 r.1), .pv (.sc .i r.2)], [], true, []⟩
def ends_Get_s0 (n : UInt64) (t27 : Int) (t28 : Int) (t26 : List UInt8) : St := ⟨[(10, .pv (.sc .u64 n)), (26, .o 60000), (27, .pv (.sc .i t27)), (28, .pv (.sc .i t28))], [(60000, .row (.s .u8 t26) false)]⟩
theorem ends_Get_g0 (n : UInt64) (t27 : Int) (t28 : Int) (t26 : List UInt8) (Q : CallOut → Prop) : headRound ends_Get_C ends_Get_lv [true, true, true, true, true, false, true, false] ends_Get_b (ends_Get_s0 n t27 t28 t26) (fnK ends_Get_C ends_Get_r ends_Get_hs Q) =
    (condP (decide (t28 < t27)) ((((0 : Int) ≤ t28) ∧ (t28 < (((List.length t26) : Nat) : Int))) ∧ (((0 : Int) ≤ (w64 ((8 : Int) * t28))) ∧ (headP ends_Get_C ends_Get_lv [true, true, true, true, true, false, true, false] ends_Get_b (ends_Get_s0 (n ||| (shl_u64 (UInt8.toUInt64 (List.getD t26 (Int.toNat t28) (0 : UInt8))) (Int.toNat (w64 ((8 : Int) * t28))))) t27 (w64 (t28 + (1 : Int))) t26) (fnK ends_Get_C ends_Get_r ends_Get_hs Q)))) (Q (ends_Get_enc (n, (0 : Int))))) := by kernel_rfl
theorem ends_Get_k0 {r : UInt64 × Int} {Q : CallOut → Prop} (hQ : Q (ends_Get_enc r)) : ∀ k : Nat, (∀ (n : UInt64) (t27 : Int) (t28 : Int) (t26 : List UInt8), ends_Get_h0 k n t27 t28 t26 = some r → headP ends_Get_C ends_Get_lv [true, true, true, true, true, false, true, false] ends_Get_b (ends_Get_s0 n t27 t28 t26) (fnK ends_Get_C ends_Get_r ends_Get_hs Q))
  | 0 => fun _ _ _ _ h => no_ok h
  | k + 1 => fun n t27 t28 t26 h => headP_step (Eq.mpr (ends_Get_g0 n t27 t28 t26 Q) (have h := (ends_Get_h0_q k n t27 t28 t26).symm.trans h; cond_ok h (fun h => ite_ok h fun hc0 h => ite_ok h fun hc1 h => (ends_Get_k0 hQ k) _ _ _ _ h) (fun h => ret_ok (Q := Q) (e := ends_Get_enc) h hQ)))
theorem ends_Get_e (b : List UInt8) (at_1 : Int) (many : Int) (Q : CallOut → Prop) : evalFnP ends_Get_C ends_Get_lv ends_Get_r ends_Get_hs ends_Get_b [.pv (.sl .u8 b), .pv (.sc .i at_1), .pv (.sc .i many)] [] Q =
    (condP (!(sizeB many)) (Q (ends_Get_enc ((0 : UInt64), (2 : Int)))) ((((List.length b) ≤ (140737488351232 : Nat)) ∧ (many ≤ (70368744177664 : Int))) ∧ (condP (!(decide ((partE b at_1 many) = (0 : Int)))) (Q (ends_Get_enc ((0 : UInt64), (partE b at_1 many)))) (headP ends_Get_C ends_Get_lv [true, true, true, true, true, false, true, false] ends_Get_b (ends_Get_s0 (0 : UInt64) (((List.length (partL b at_1 many)) : Nat) : Int) (0 : Int) (partL b at_1 many)) (fnK ends_Get_C ends_Get_r ends_Get_hs Q))))) := by kernel_rfl
theorem ends_Get_w {k : Nat} (b : List UInt8) (at_1 : Int) (many : Int) {r} {Q : CallOut → Prop} (h : ends_Get k b at_1 many = some r) (hQ : Q (ends_Get_enc r)) : evalFnP ends_Get_C ends_Get_lv ends_Get_r ends_Get_hs ends_Get_b [.pv (.sl .u8 b), .pv (.sc .i at_1), .pv (.sc .i many)] [] Q :=
  Eq.mpr (ends_Get_e b at_1 many Q) (have h := (ends_Get_q k b at_1 many).symm.trans h; cond_ok h (fun h => ret_ok (Q := Q) (e := ends_Get_enc) h hQ) (fun h => ite_ok h fun hc0 h => cond_ok h (fun h => ret_ok (Q := Q) (e := ends_Get_enc) h hQ) (fun h => (ends_Get_k0 hQ _) _ _ _ _ h)))
def ends_Get_c : Ans
  | [.pv (.sl .u8 b), .pv (.sc .i at_1), .pv (.sc .i many)], [] => some (some (b.length ≤ 140737488351232), ends_Get_enc ((getN b at_1 many, getE b at_1 many)))
  | _, _ => none
theorem ends_Get_tok : TblOK Tryd.prog theG ends_Get_T := .cons ⟨by kernel_rfl, ends_size_ok⟩ (.cons ⟨by kernel_rfl, ends_Part_ok⟩ (.nil))
theorem ends_Get_ok : FnOK Tryd.prog theG 51 (unW ends_Get_c) := by
  refine FnOK.ofC (T := ends_Get_T) (nt := 42) (np := 0) (mv := []) (nf := false) (hs := ends_Get_hs) (fn := Tryd.f51) (body := ends_Get_b) ends_Get_tok (by kernel_rfl) (by kernel_rfl) (by kernel_rfl) (by kernel_rfl) (c := ends_Get_c) (lv := ends_Get_lv) ?_
  intro xs mem p out h hp
  unfold ends_Get_c at h
  split at h
  · cases h
    obtain ⟨k, hk⟩ := ends_Get_spec _ _ _ hp
    exact ends_Get_w _ _ _ hk rfl
  · cases h
end
end Go.Proofs.YtbdajagcinfeeaaDoor.M
