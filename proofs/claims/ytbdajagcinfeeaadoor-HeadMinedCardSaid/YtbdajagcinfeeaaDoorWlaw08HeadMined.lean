/- The statement of HeadMined: for every input the law returns true, and each argument reads behind the call as it read before. No condition. -/
import Derived.KernelRfl
import Derived.Test.YtbdajagcinfeeaaDoorProg
import Derived.Test.YtbdajagcinfeeaaDoorRows
import Derived.Test.YtbdajagcinfeeaaDoorCards
import Derived.Test.YtbdajagcinfeeaaDoorTie
import Derived.WalkKit
import Derived.ProofKit
import Derived.Handy
import Derived.Lay
import Derived.SizedLaws
import Derived.SevenTiedAt
import Derived.Test.YtbdajagcinfeeaaDoorLe
import Derived.Test.YtbdajagcinfeeaaDoorFhead
import Derived.Test.YtbdajagcinfeeaaDoorFlaw08
import Derived.Test.YtbdajagcinfeeaaDoorSwords
import Derived.Test.YtbdajagcinfeeaaDoorSshaS
import Derived.Test.YtbdajagcinfeeaaDoorSbigS
import Derived.Test.YtbdajagcinfeeaaDoorSendS
import Derived.Test.YtbdajagcinfeeaaDoorStarS
import Derived.Test.YtbdajagcinfeeaaDoorSheadS
import Derived.Test.YtbdajagcinfeeaaDoorSshaK
import Derived.Test.YtbdajagcinfeeaaDoorSKL
set_option linter.unusedVariables false
set_option linter.unusedSimpArgs false
set_option autoImplicit false
namespace Go.Proofs.YtbdajagcinfeeaaDoor.M
open Go
noncomputable section
/-- the loop 0 of moneyer/moneyerlaw08.HeadMined -/
def law08_HeadMined_h0 : Nat → UInt32 → UInt32 → (Vector UInt8 32) → (Vector UInt8 32) → UInt32 → UInt32 → UInt32 → (Vector UInt8 32) → (Vector UInt8 32) → UInt32 → UInt32 → UInt32 → Option (Bool)
  | 0, _, _, _, _, _, _, _, _, _, _, _, _ => none
  | k + 1, n, i, a, a1, a2, a3, a4, b, b1, b2, b3, b4 => bif decide (i < n) then (bif (decide ((Vector.toList b) = (Vector.toList a))) && ((decide ((Vector.toList b1) = (Vector.toList a1))) && ((decide (b2 = a2)) && ((decide (b3 = a3)) && ((decide (b4 = a4)) && true)))) then (bif eqb (meetsS (idV a a1 a2 a3 a4) a3) true then (some true)
          else (some false))
        else (bif meetsS (idV b b1 b2 b3 b4) b3 then (some false)
          else (law08_HeadMined_h0 k n (i + (1 : UInt32)) a a1 a2 a3 a4 b b1 b2 b3 (b4 + (1 : UInt32)))))
      else (some false)
theorem law08_HeadMined_h0_q (k : Nat) (n : UInt32) (i : UInt32) (a : Vector UInt8 32) (a1 : Vector UInt8 32) (a2 : UInt32) (a3 : UInt32) (a4 : UInt32) (b : Vector UInt8 32) (b1 : Vector UInt8 32) (b2 : UInt32) (b3 : UInt32) (b4 : UInt32) : law08_HeadMined_h0 (k + 1) n i a a1 a2 a3 a4 b b1 b2 b3 b4 =
  (bif decide (i < n) then (bif (decide ((Vector.toList b) = (Vector.toList a))) && ((decide ((Vector.toList b1) = (Vector.toList a1))) && ((decide (b2 = a2)) && ((decide (b3 = a3)) && ((decide (b4 = a4)) && true)))) then (bif eqb (meetsS (idV a a1 a2 a3 a4) a3) true then (some true)
          else (some false))
        else (bif meetsS (idV b b1 b2 b3 b4) b3 then (some false)
          else (law08_HeadMined_h0 k n (i + (1 : UInt32)) a a1 a2 a3 a4 b b1 b2 b3 (b4 + (1 : UInt32)))))
      else (some false)) := by kernel_rfl
/-- moneyer/moneyerlaw08.HeadMined -/
def law08_HeadMined (k : Nat) (h_0_Prev : Vector UInt8 32) (h_0_Root : Vector UInt8 32) (h_0_Time : UInt32) (h_0_Bits : UInt32) (h_0_Nonce : UInt32) (tries : UInt8) : Option (Bool) :=
  if (List.length (headB h_0_Prev h_0_Root h_0_Time h_0_Bits h_0_Nonce)) ≤ (140737488351232 : Nat) then
    bif eqb (!(decide ((rdE (headB h_0_Prev h_0_Root h_0_Time h_0_Bits h_0_Nonce)) = (0 : Int)))) false then (bif bif false then true else (!((decide ((Vector.toList (rdV (headB h_0_Prev h_0_Root h_0_Time h_0_Bits h_0_Nonce) (hgP (headB h_0_Prev h_0_Root h_0_Time h_0_Bits h_0_Nonce) (0 : Int)))) = (Vector.toList h_0_Prev))) && ((decide ((Vector.toList (rdV (headB h_0_Prev h_0_Root h_0_Time h_0_Bits h_0_Nonce) (hgR (headB h_0_Prev h_0_Root h_0_Time h_0_Bits h_0_Nonce) (0 : Int)))) = (Vector.toList h_0_Root))) && ((decide ((rdW (headB h_0_Prev h_0_Root h_0_Time h_0_Bits h_0_Nonce) (hgT (headB h_0_Prev h_0_Root h_0_Time h_0_Bits h_0_Nonce) (0 : Int))) = h_0_Time)) && ((decide ((rdW (headB h_0_Prev h_0_Root h_0_Time h_0_Bits h_0_Nonce) (hgB (headB h_0_Prev h_0_Root h_0_Time h_0_Bits h_0_Nonce) (0 : Int))) = h_0_Bits)) && ((decide ((rdW (headB h_0_Prev h_0_Root h_0_Time h_0_Bits h_0_Nonce) (hgN (headB h_0_Prev h_0_Root h_0_Time h_0_Bits h_0_Nonce) (0 : Int))) = h_0_Nonce)) && true)))))) then (some false)
        else (bif !(decide ((mnE h_0_Prev h_0_Root h_0_Time h_0_Bits h_0_Nonce (UInt8.toUInt32 (tries % (21 : UInt8)))) = (0 : Int))) then (bif eqb ((decide ((Vector.toList (mnV h_0_Prev h_0_Root h_0_Time h_0_Bits h_0_Nonce (UInt8.toUInt32 (tries % (21 : UInt8))) h_0_Prev)) = (Vector.toList (Vector.replicate (32 : Nat) (0 : UInt8))))) && ((decide ((Vector.toList (mnV h_0_Prev h_0_Root h_0_Time h_0_Bits h_0_Nonce (UInt8.toUInt32 (tries % (21 : UInt8))) h_0_Root)) = (Vector.toList (Vector.replicate (32 : Nat) (0 : UInt8))))) && ((decide ((mnW h_0_Prev h_0_Root h_0_Time h_0_Bits h_0_Nonce (UInt8.toUInt32 (tries % (21 : UInt8))) h_0_Time) = (0 : UInt32))) && ((decide ((mnW h_0_Prev h_0_Root h_0_Time h_0_Bits h_0_Nonce (UInt8.toUInt32 (tries % (21 : UInt8))) h_0_Bits) = (0 : UInt32))) && ((decide ((mnN h_0_Prev h_0_Root h_0_Time h_0_Bits h_0_Nonce (UInt8.toUInt32 (tries % (21 : UInt8)))) = (0 : UInt32))) && true))))) true then (some true)
            else (some false))
          else (law08_HeadMined_h0 k (UInt8.toUInt32 (tries % (21 : UInt8))) (0 : UInt32) (mnV h_0_Prev h_0_Root h_0_Time h_0_Bits h_0_Nonce (UInt8.toUInt32 (tries % (21 : UInt8))) h_0_Prev) (mnV h_0_Prev h_0_Root h_0_Time h_0_Bits h_0_Nonce (UInt8.toUInt32 (tries % (21 : UInt8))) h_0_Root) (mnW h_0_Prev h_0_Root h_0_Time h_0_Bits h_0_Nonce (UInt8.toUInt32 (tries % (21 : UInt8))) h_0_Time) (mnW h_0_Prev h_0_Root h_0_Time h_0_Bits h_0_Nonce (UInt8.toUInt32 (tries % (21 : UInt8))) h_0_Bits) (mnN h_0_Prev h_0_Root h_0_Time h_0_Bits h_0_Nonce (UInt8.toUInt32 (tries % (21 : UInt8)))) h_0_Prev h_0_Root h_0_Time h_0_Bits h_0_Nonce)))
      else (some false)
  else none
theorem law08_HeadMined_q (k : Nat) (h_0_Prev : Vector UInt8 32) (h_0_Root : Vector UInt8 32) (h_0_Time : UInt32) (h_0_Bits : UInt32) (h_0_Nonce : UInt32) (tries : UInt8) : law08_HeadMined k h_0_Prev h_0_Root h_0_Time h_0_Bits h_0_Nonce tries = (if (List.length (headB h_0_Prev h_0_Root h_0_Time h_0_Bits h_0_Nonce)) ≤ (140737488351232 : Nat) then
    bif eqb (!(decide ((rdE (headB h_0_Prev h_0_Root h_0_Time h_0_Bits h_0_Nonce)) = (0 : Int)))) false then (bif bif false then true else (!((decide ((Vector.toList (rdV (headB h_0_Prev h_0_Root h_0_Time h_0_Bits h_0_Nonce) (hgP (headB h_0_Prev h_0_Root h_0_Time h_0_Bits h_0_Nonce) (0 : Int)))) = (Vector.toList h_0_Prev))) && ((decide ((Vector.toList (rdV (headB h_0_Prev h_0_Root h_0_Time h_0_Bits h_0_Nonce) (hgR (headB h_0_Prev h_0_Root h_0_Time h_0_Bits h_0_Nonce) (0 : Int)))) = (Vector.toList h_0_Root))) && ((decide ((rdW (headB h_0_Prev h_0_Root h_0_Time h_0_Bits h_0_Nonce) (hgT (headB h_0_Prev h_0_Root h_0_Time h_0_Bits h_0_Nonce) (0 : Int))) = h_0_Time)) && ((decide ((rdW (headB h_0_Prev h_0_Root h_0_Time h_0_Bits h_0_Nonce) (hgB (headB h_0_Prev h_0_Root h_0_Time h_0_Bits h_0_Nonce) (0 : Int))) = h_0_Bits)) && ((decide ((rdW (headB h_0_Prev h_0_Root h_0_Time h_0_Bits h_0_Nonce) (hgN (headB h_0_Prev h_0_Root h_0_Time h_0_Bits h_0_Nonce) (0 : Int))) = h_0_Nonce)) && true)))))) then (some false)
        else (bif !(decide ((mnE h_0_Prev h_0_Root h_0_Time h_0_Bits h_0_Nonce (UInt8.toUInt32 (tries % (21 : UInt8)))) = (0 : Int))) then (bif eqb ((decide ((Vector.toList (mnV h_0_Prev h_0_Root h_0_Time h_0_Bits h_0_Nonce (UInt8.toUInt32 (tries % (21 : UInt8))) h_0_Prev)) = (Vector.toList (Vector.replicate (32 : Nat) (0 : UInt8))))) && ((decide ((Vector.toList (mnV h_0_Prev h_0_Root h_0_Time h_0_Bits h_0_Nonce (UInt8.toUInt32 (tries % (21 : UInt8))) h_0_Root)) = (Vector.toList (Vector.replicate (32 : Nat) (0 : UInt8))))) && ((decide ((mnW h_0_Prev h_0_Root h_0_Time h_0_Bits h_0_Nonce (UInt8.toUInt32 (tries % (21 : UInt8))) h_0_Time) = (0 : UInt32))) && ((decide ((mnW h_0_Prev h_0_Root h_0_Time h_0_Bits h_0_Nonce (UInt8.toUInt32 (tries % (21 : UInt8))) h_0_Bits) = (0 : UInt32))) && ((decide ((mnN h_0_Prev h_0_Root h_0_Time h_0_Bits h_0_Nonce (UInt8.toUInt32 (tries % (21 : UInt8)))) = (0 : UInt32))) && true))))) true then (some true)
            else (some false))
          else (law08_HeadMined_h0 k (UInt8.toUInt32 (tries % (21 : UInt8))) (0 : UInt32) (mnV h_0_Prev h_0_Root h_0_Time h_0_Bits h_0_Nonce (UInt8.toUInt32 (tries % (21 : UInt8))) h_0_Prev) (mnV h_0_Prev h_0_Root h_0_Time h_0_Bits h_0_Nonce (UInt8.toUInt32 (tries % (21 : UInt8))) h_0_Root) (mnW h_0_Prev h_0_Root h_0_Time h_0_Bits h_0_Nonce (UInt8.toUInt32 (tries % (21 : UInt8))) h_0_Time) (mnW h_0_Prev h_0_Root h_0_Time h_0_Bits h_0_Nonce (UInt8.toUInt32 (tries % (21 : UInt8))) h_0_Bits) (mnN h_0_Prev h_0_Root h_0_Time h_0_Bits h_0_Nonce (UInt8.toUInt32 (tries % (21 : UInt8)))) h_0_Prev h_0_Root h_0_Time h_0_Bits h_0_Nonce)))
      else (some false)
  else none) := by kernel_rfl
theorem low_inj {x y : UInt32} (h : lowY x.toNat 4 = lowY y.toNat 4) : x = y := by
  have h1 := congrArg valN h
  rw [valN_low, valN_low] at h1
  apply UInt32.toNat_inj.1
  have a := x.toNat_lt
  have b := y.toNat_lt
  have e : (256 : Nat) ^ 4 = 2 ^ 32 := by decide
  rw [e, Nat.mod_eq_of_lt a, Nat.mod_eq_of_lt b] at h1
  exact h1
theorem headB_inj {p r p' r' : Vector UInt8 32} {t b n t' b' n' : UInt32} (h : headB p r t b n = headB p' r' t' b' n') : p = p' ∧ r = r' ∧ t = t' ∧ b = b' ∧ n = n' := by
  rw [headB_eq, headB_eq] at h
  have l : ∀ x : UInt32, (lowY x.toNat 4).length = 4 := fun x => lowY_len _ _
  have v : ∀ x : Vector UInt8 32, x.toList.length = 32 := fun x => Vector.length_toList
  obtain ⟨h, h5⟩ := List.append_inj h (by simp only [List.length_append, l, v])
  obtain ⟨h, h4⟩ := List.append_inj h (by simp only [List.length_append, l, v])
  obtain ⟨h, h3⟩ := List.append_inj h (by simp only [List.length_append, l, v])
  obtain ⟨h1, h2⟩ := List.append_inj h (by simp only [v])
  exact ⟨Vector.toList_inj.1 h1, Vector.toList_inj.1 h2, low_inj h3, low_inj h4, low_inj h5⟩
theorem read_put (p r : Vector UInt8 32) (t b n : UInt32) : rdE (headB p r t b n) = 0 ∧ rdV (headB p r t b n) (hgP (headB p r t b n) 0) = p ∧ rdV (headB p r t b n) (hgR (headB p r t b n) 0) = r ∧
    rdW (headB p r t b n) (hgT (headB p r t b n) 0) = t ∧ rdW (headB p r t b n) (hgB (headB p r t b n) 0) = b ∧ rdW (headB p r t b n) (hgN (headB p r t b n) 0) = n := by
  have hl := headB_len p r t b n
  generalize hx : headB p r t b n = x at hl
  have hE : partE x 0 76 = 0 := partE_of (by omega) (by omega) (by omega)
  have hL : partL x 0 76 = x := by
    rw [partL_eq, if_pos hE]
    show List.take 76 (List.drop 0 x) = x
    rw [List.drop_zero, List.take_of_length_le (by omega)]
  have hR : rdE x = 0 := by rw [rdE_eq, if_neg (by omega), hE]
  have pg := put_get x hl
  have inj := headB_inj (pg.trans hx.symm)
  obtain ⟨i1, i2, i3, i4, i5⟩ := inj
  refine ⟨hR, ?_, ?_, ?_, ?_, ?_⟩
  · rw [rdV_eq, if_pos hR, hgP_eq, if_pos hE, hL, i1]
  · rw [rdV_eq, if_pos hR, hgR_eq, if_pos hE, hL, i2]
  · rw [rdW_eq, if_pos hR, hgT_eq, if_pos hE, hL, i3]
  · rw [rdW_eq, if_pos hR, hgB_eq, if_pos hE, hL, i4]
  · rw [rdW_eq, if_pos hR, hgN_eq, if_pos hE, hL, i5]
theorem mineO_meets {p r : Vector UInt8 32} {t b x : UInt32} : ∀ (m : Nat) (n : UInt32), mineO p r t b n m = some x → meetsS (idV p r t b x) b = true
  | 0, n, h => by cases h
  | m + 1, n, h => by
    rw [mineO] at h
    cases hm : meetsS (idV p r t b n) b with
    | true => rw [hm] at h; cases h; exact hm
    | false => rw [hm] at h; exact mineO_meets m (n + 1) h
theorem mined_loop (p r : Vector UInt8 32) (t b x k : UInt32) : ∀ (m i : Nat) (y : UInt32), i + m = k.toNat → mineO p r t b y m = some x → Ev (fun f => law08_HeadMined_h0 f k (UInt32.ofNat i) p r t b x p r t b y) true
  | 0, i, y, _, h => by cases h
  | m + 1, i, y, hi, h => by
    have hk : k.toNat < 4294967296 := k.toNat_lt
    have hl : decide (UInt32.ofNat i < k) = true := by
      apply decide_eq_true
      rw [UInt32.lt_iff_toNat_lt, UInt32.toNat_ofNat']
      show i % 2 ^ 32 < k.toNat
      omega
    by_cases e : y = x
    · subst e
      refine Ev.done fun f => ?_
      rw [law08_HeadMined_h0_q, hl, cond_true, mineO_meets _ _ h]
      simp only [decide_true, Bool.and_true, cond_true, eqb]
    · rw [mineO] at h
      cases hm : meetsS (idV p r t b y) b with
      | true => rw [hm] at h; cases h; exact (e rfl).elim
      | false =>
        rw [hm] at h
        refine Ev.step (fun f => ?_) (mined_loop p r t b x k m (i + 1) (y + 1) (by omega) h)
        rw [law08_HeadMined_h0_q, hl, cond_true, decide_eq_false e, hm]
        simp only [Bool.false_and, Bool.and_false, cond_false]
        congr 1
        apply UInt32.toNat_inj.1
        rw [UInt32.toNat_add, UInt32.toNat_ofNat', UInt32.toNat_ofNat']
        show (i % 2 ^ 32 + 1) % 2 ^ 32 = (i + 1) % 2 ^ 32
        omega
theorem law08_HeadMined_spec (p r : Vector UInt8 32) (t b n : UInt32) (k : UInt8) : Ev (fun f => law08_HeadMined f p r t b n k) true := by
  refine Ev.same (fun f => law08_HeadMined_q f p r t b n k) ?_
  refine Ev.same (fun f => if_pos (by rw [headB_len]; decide)) ?_
  obtain ⟨q1, q2, q3, q4, q5, q6⟩ := read_put p r t b n
  rw [q1, q2, q3, q4, q5, q6]
  generalize UInt8.toUInt32 (k % 21) = m
  by_cases hE : mnE p r t b n m = 0
  · have e1 : mnV p r t b n m p = p := by rw [mnV_eq, if_pos hE]
    have e2 : mnV p r t b n m r = r := by rw [mnV_eq, if_pos hE]
    have e3 : mnW p r t b n m t = t := by rw [mnW_eq, if_pos hE]
    have e4 : mnW p r t b n m b = b := by rw [mnW_eq, if_pos hE]
    have hE' := hE
    rw [mnE_eq] at hE'
    by_cases ho : ofE b = 0
    · rw [if_pos ho] at hE'
      cases hm : mineO p r t b n m.toNat with
      | none => rw [hm] at hE'; cases hE'
      | some x =>
        have e5 : mnN p r t b n m = x := by rw [mnN_eq, if_pos ho, hm]; rfl
        rw [e1, e2, e3, e4, e5, hE]
        refine Ev.same (fun f => ?_) (mined_loop p r t b x m m.toNat 0 n (by omega) hm)
        simp only [decide_true, Bool.and_true]
        rfl
    · rw [if_neg ho] at hE'; cases hE'
  · have e1 : mnV p r t b n m p = Vector.replicate 32 0 := by rw [mnV_eq, if_neg hE]
    have e2 : mnV p r t b n m r = Vector.replicate 32 0 := by rw [mnV_eq, if_neg hE]
    have e3 : mnW p r t b n m t = 0 := by rw [mnW_eq, if_neg hE]
    have e4 : mnW p r t b n m b = 0 := by rw [mnW_eq, if_neg hE]
    have e5 : mnN p r t b n m = 0 := by
      rw [mnE_eq] at hE
      rw [mnN_eq]
      by_cases ho : ofE b = 0
      · rw [if_pos ho] at hE
        rw [if_pos ho]
        cases hm : mineO p r t b n m.toNat with
        | none => rfl
        | some x => rw [hm] at hE; exact (hE rfl).elim
      · rw [if_neg ho]
    rw [e1, e2, e3, e4, e5, decide_eq_false hE]
    refine Ev.done fun f => ?_
    simp only [decide_true, Bool.and_true]
    rfl

end
end Go.Proofs.YtbdajagcinfeeaaDoor.M

namespace Go.Proofs.YtbdajagcinfeeaaDoor.M
open Go
noncomputable section
set_option maxRecDepth 100000
set_option maxHeartbeats 0
noncomputable def law08_HeadMined_T : Tbl := [(32, [], head_Mine_c), (21, [], head_Put_c), (30, [], head_Read_c), (27, [], law08_works_c), (25, [], head_Works_c)]
noncomputable def law08_HeadMined_C : CfgW := mkC Tryd.prog theG law08_HeadMined_T 62 0 false
def law08_HeadMined_lv : Nat → List Nat := fun i => bif Nat.beq i 0 then [5, 6, 10, 11] else []
noncomputable abbrev law08_HeadMined_b : Code := Tryd.f10.body.getD .skip
noncomputable abbrev law08_HeadMined_r : List ResultVar := Tryd.f10.results.toList
def law08_HeadMined_hs : List Nat := []

def law08_HeadMined_enc (r : Bool) : CallOut := ⟨.pv (.sc .b r), [], true, []⟩
def law08_HeadMined_s0 (n : UInt32) (i : UInt32) (a : Vector UInt8 32) (a1 : Vector UInt8 32) (a2 : UInt32) (a3 : UInt32) (a4 : UInt32) (b : Vector UInt8 32) (b1 : Vector UInt8 32) (b2 : UInt32) (b3 : UInt32) (b4 : UInt32) : St := ⟨[(5, .pv (.sc .u32 n)), (6, .p 60000 []), (10, .p 60001 []), (11, .pv (.sc .u32 i))], [(60000, .box (.pv (.st [.arr .u8 32 a, .arr .u8 32 a1, .sc .u32 a2, .sc .u32 a3, .sc .u32 a4]))), (60001, .box (.pv (.st [.arr .u8 32 b, .arr .u8 32 b1, .sc .u32 b2, .sc .u32 b3, .sc .u32 b4])))]⟩
theorem law08_HeadMined_g0 (n : UInt32) (i : UInt32) (a : Vector UInt8 32) (a1 : Vector UInt8 32) (a2 : UInt32) (a3 : UInt32) (a4 : UInt32) (b : Vector UInt8 32) (b1 : Vector UInt8 32) (b2 : UInt32) (b3 : UInt32) (b4 : UInt32) (Q : CallOut → Prop) : headRound law08_HeadMined_C law08_HeadMined_lv [true, true, true, true, true, true, true, false, true, false] law08_HeadMined_b (law08_HeadMined_s0 n i a a1 a2 a3 a4 b b1 b2 b3 b4) (fnK law08_HeadMined_C law08_HeadMined_r law08_HeadMined_hs Q) =
    (condP (decide (i < n)) (condP ((decide ((Vector.toList b) = (Vector.toList a))) && ((decide ((Vector.toList b1) = (Vector.toList a1))) && ((decide (b2 = a2)) && ((decide (b3 = a3)) && ((decide (b4 = a4)) && true))))) (condP (eqb (meetsS (idV a a1 a2 a3 a4) a3) true) (Q (law08_HeadMined_enc true)) (Q (law08_HeadMined_enc false))) (condP (meetsS (idV b b1 b2 b3 b4) b3) (Q (law08_HeadMined_enc false)) (headP law08_HeadMined_C law08_HeadMined_lv [true, true, true, true, true, true, true, false, true, false] law08_HeadMined_b (law08_HeadMined_s0 n (i + (1 : UInt32)) a a1 a2 a3 a4 b b1 b2 b3 (b4 + (1 : UInt32))) (fnK law08_HeadMined_C law08_HeadMined_r law08_HeadMined_hs Q)))) (Q (law08_HeadMined_enc false))) := by kernel_rfl
theorem law08_HeadMined_k0 {r : Bool} {Q : CallOut → Prop} (hQ : Q (law08_HeadMined_enc r)) : ∀ k : Nat, (∀ (n : UInt32) (i : UInt32) (a : Vector UInt8 32) (a1 : Vector UInt8 32) (a2 : UInt32) (a3 : UInt32) (a4 : UInt32) (b : Vector UInt8 32) (b1 : Vector UInt8 32) (b2 : UInt32) (b3 : UInt32) (b4 : UInt32), law08_HeadMined_h0 k n i a a1 a2 a3 a4 b b1 b2 b3 b4 = some r → headP law08_HeadMined_C law08_HeadMined_lv [true, true, true, true, true, true, true, false, true, false] law08_HeadMined_b (law08_HeadMined_s0 n i a a1 a2 a3 a4 b b1 b2 b3 b4) (fnK law08_HeadMined_C law08_HeadMined_r law08_HeadMined_hs Q))
  | 0 => fun _ _ _ _ _ _ _ _ _ _ _ _ h => no_ok h
  | k + 1 => fun n i a a1 a2 a3 a4 b b1 b2 b3 b4 h => headP_step (Eq.mpr (law08_HeadMined_g0 n i a a1 a2 a3 a4 b b1 b2 b3 b4 Q) (have h := (law08_HeadMined_h0_q k n i a a1 a2 a3 a4 b b1 b2 b3 b4).symm.trans h; cond_ok h (fun h => cond_ok h (fun h => cond_ok h (fun h => ret_ok (Q := Q) (e := law08_HeadMined_enc) h hQ) (fun h => ret_ok (Q := Q) (e := law08_HeadMined_enc) h hQ)) (fun h => cond_ok h (fun h => ret_ok (Q := Q) (e := law08_HeadMined_enc) h hQ) (fun h => (law08_HeadMined_k0 hQ k) _ _ _ _ _ _ _ _ _ _ _ _ h))) (fun h => ret_ok (Q := Q) (e := law08_HeadMined_enc) h hQ)))
theorem law08_HeadMined_e (h_0_Prev : Vector UInt8 32) (h_0_Root : Vector UInt8 32) (h_0_Time : UInt32) (h_0_Bits : UInt32) (h_0_Nonce : UInt32) (tries : UInt8) (Q : CallOut → Prop) : evalFnP law08_HeadMined_C law08_HeadMined_lv law08_HeadMined_r law08_HeadMined_hs law08_HeadMined_b [.pv (.st [.arr .u8 32 h_0_Prev, .arr .u8 32 h_0_Root, .sc .u32 h_0_Time, .sc .u32 h_0_Bits, .sc .u32 h_0_Nonce]), .pv (.sc .u8 tries)] [] Q =
    (((21 : UInt8) ≠ (0 : UInt8)) ∧ (((List.length (headB h_0_Prev h_0_Root h_0_Time h_0_Bits h_0_Nonce)) ≤ (140737488351232 : Nat)) ∧ (condP (eqb (!(decide ((rdE (headB h_0_Prev h_0_Root h_0_Time h_0_Bits h_0_Nonce)) = (0 : Int)))) false) (condP (bif false then true else (!((decide ((Vector.toList (rdV (headB h_0_Prev h_0_Root h_0_Time h_0_Bits h_0_Nonce) (hgP (headB h_0_Prev h_0_Root h_0_Time h_0_Bits h_0_Nonce) (0 : Int)))) = (Vector.toList h_0_Prev))) && ((decide ((Vector.toList (rdV (headB h_0_Prev h_0_Root h_0_Time h_0_Bits h_0_Nonce) (hgR (headB h_0_Prev h_0_Root h_0_Time h_0_Bits h_0_Nonce) (0 : Int)))) = (Vector.toList h_0_Root))) && ((decide ((rdW (headB h_0_Prev h_0_Root h_0_Time h_0_Bits h_0_Nonce) (hgT (headB h_0_Prev h_0_Root h_0_Time h_0_Bits h_0_Nonce) (0 : Int))) = h_0_Time)) && ((decide ((rdW (headB h_0_Prev h_0_Root h_0_Time h_0_Bits h_0_Nonce) (hgB (headB h_0_Prev h_0_Root h_0_Time h_0_Bits h_0_Nonce) (0 : Int))) = h_0_Bits)) && ((decide ((rdW (headB h_0_Prev h_0_Root h_0_Time h_0_Bits h_0_Nonce) (hgN (headB h_0_Prev h_0_Root h_0_Time h_0_Bits h_0_Nonce) (0 : Int))) = h_0_Nonce)) && true))))))) (Q (law08_HeadMined_enc false)) (condP (!(decide ((mnE h_0_Prev h_0_Root h_0_Time h_0_Bits h_0_Nonce (UInt8.toUInt32 (tries % (21 : UInt8)))) = (0 : Int)))) (condP (eqb ((decide ((Vector.toList (mnV h_0_Prev h_0_Root h_0_Time h_0_Bits h_0_Nonce (UInt8.toUInt32 (tries % (21 : UInt8))) h_0_Prev)) = (Vector.toList (Vector.replicate (32 : Nat) (0 : UInt8))))) && ((decide ((Vector.toList (mnV h_0_Prev h_0_Root h_0_Time h_0_Bits h_0_Nonce (UInt8.toUInt32 (tries % (21 : UInt8))) h_0_Root)) = (Vector.toList (Vector.replicate (32 : Nat) (0 : UInt8))))) && ((decide ((mnW h_0_Prev h_0_Root h_0_Time h_0_Bits h_0_Nonce (UInt8.toUInt32 (tries % (21 : UInt8))) h_0_Time) = (0 : UInt32))) && ((decide ((mnW h_0_Prev h_0_Root h_0_Time h_0_Bits h_0_Nonce (UInt8.toUInt32 (tries % (21 : UInt8))) h_0_Bits) = (0 : UInt32))) && ((decide ((mnN h_0_Prev h_0_Root h_0_Time h_0_Bits h_0_Nonce (UInt8.toUInt32 (tries % (21 : UInt8)))) = (0 : UInt32))) && true))))) true) (Q (law08_HeadMined_enc true)) (Q (law08_HeadMined_enc false))) (headP law08_HeadMined_C law08_HeadMined_lv [true, true, true, true, true, true, true, false, true, false] law08_HeadMined_b (law08_HeadMined_s0 (UInt8.toUInt32 (tries % (21 : UInt8))) (0 : UInt32) (mnV h_0_Prev h_0_Root h_0_Time h_0_Bits h_0_Nonce (UInt8.toUInt32 (tries % (21 : UInt8))) h_0_Prev) (mnV h_0_Prev h_0_Root h_0_Time h_0_Bits h_0_Nonce (UInt8.toUInt32 (tries % (21 : UInt8))) h_0_Root) (mnW h_0_Prev h_0_Root h_0_Time h_0_Bits h_0_Nonce (UInt8.toUInt32 (tries % (21 : UInt8))) h_0_Time) (mnW h_0_Prev h_0_Root h_0_Time h_0_Bits h_0_Nonce (UInt8.toUInt32 (tries % (21 : UInt8))) h_0_Bits) (mnN h_0_Prev h_0_Root h_0_Time h_0_Bits h_0_Nonce (UInt8.toUInt32 (tries % (21 : UInt8)))) h_0_Prev h_0_Root h_0_Time h_0_Bits h_0_Nonce) (fnK law08_HeadMined_C law08_HeadMined_r law08_HeadMined_hs Q)))) (Q (law08_HeadMined_enc false))))) := by kernel_rfl
theorem law08_HeadMined_w {k : Nat} (h_0_Prev : Vector UInt8 32) (h_0_Root : Vector UInt8 32) (h_0_Time : UInt32) (h_0_Bits : UInt32) (h_0_Nonce : UInt32) (tries : UInt8) {r} {Q : CallOut → Prop} (h : law08_HeadMined k h_0_Prev h_0_Root h_0_Time h_0_Bits h_0_Nonce tries = some r) (hQ : Q (law08_HeadMined_enc r)) : evalFnP law08_HeadMined_C law08_HeadMined_lv law08_HeadMined_r law08_HeadMined_hs law08_HeadMined_b [.pv (.st [.arr .u8 32 h_0_Prev, .arr .u8 32 h_0_Root, .sc .u32 h_0_Time, .sc .u32 h_0_Bits, .sc .u32 h_0_Nonce]), .pv (.sc .u8 tries)] [] Q :=
  Eq.mpr (law08_HeadMined_e h_0_Prev h_0_Root h_0_Time h_0_Bits h_0_Nonce tries Q) (have h := (law08_HeadMined_q k h_0_Prev h_0_Root h_0_Time h_0_Bits h_0_Nonce tries).symm.trans h; ⟨by decide +kernel, ite_ok h fun hc0 h => cond_ok h (fun h => cond_ok h (fun h => ret_ok (Q := Q) (e := law08_HeadMined_enc) h hQ) (fun h => cond_ok h (fun h => cond_ok h (fun h => ret_ok (Q := Q) (e := law08_HeadMined_enc) h hQ) (fun h => ret_ok (Q := Q) (e := law08_HeadMined_enc) h hQ)) (fun h => (law08_HeadMined_k0 hQ _) _ _ _ _ _ _ _ _ _ _ _ _ h))) (fun h => ret_ok (Q := Q) (e := law08_HeadMined_enc) h hQ)⟩)
def law08_HeadMined_c : Ans
  | [.pv (.st [.arr .u8 32 h_0_Prev, .arr .u8 32 h_0_Root, .sc .u32 h_0_Time, .sc .u32 h_0_Bits, .sc .u32 h_0_Nonce]), .pv (.sc .u8 tries)], [] => some (none, law08_HeadMined_enc (true))
  | _, _ => none
theorem law08_HeadMined_tok : TblOK Tryd.prog theG law08_HeadMined_T := .cons ⟨by kernel_rfl, head_Mine_ok⟩ (.cons ⟨by kernel_rfl, head_Put_ok⟩ (.cons ⟨by kernel_rfl, head_Read_ok⟩ (.cons ⟨by kernel_rfl, law08_works_ok⟩ (.cons ⟨by kernel_rfl, head_Works_ok⟩ (.nil)))))
theorem law08_HeadMined_ok : FnOK Tryd.prog theG 10 (unW law08_HeadMined_c) := by
  refine FnOK.ofC (T := law08_HeadMined_T) (nt := 62) (np := 0) (mv := []) (nf := false) (hs := law08_HeadMined_hs) (fn := Tryd.f10) (body := law08_HeadMined_b) law08_HeadMined_tok (by kernel_rfl) (by kernel_rfl) (by kernel_rfl) (by kernel_rfl) (c := law08_HeadMined_c) (lv := law08_HeadMined_lv) ?_
  intro xs mem p out h hp
  unfold law08_HeadMined_c at h
  split at h
  · cases h
    obtain ⟨k, hk⟩ := law08_HeadMined_spec _ _ _ _ _ _
    exact law08_HeadMined_w _ _ _ _ _ _ hk rfl
  · cases h
end
end Go.Proofs.YtbdajagcinfeeaaDoor.M

namespace Go.Proofs.YtbdajagcinfeeaaDoor
open Go Go.ChangeShapes Go.WideShapes Go.ChangeAt Go.RowKit
open Go.Proofs.YtbdajagcinfeeaaDoor
theorem law08_HeadMined_own : ownKnob Tryd.prog.godebug = none := by kernel_rfl
theorem law08_HeadMined_law : ∀ ys : List M.PV, M.FitL [.st [.arr .u8 32, .arr .u8 32, .sc .u32, .sc .u32, .sc .u32], .sc .u8] ys → ∃ p out, M.law08_HeadMined_c (ys.map .pv) [] = some (p, out) ∧ p.h ∧ out.val = .pv (.sc .b true) := by
  rintro ys ⟨_, _, rfl, ⟨_, rfl, ⟨_, _, rfl, ⟨x0_Prev, rfl, hx0_Prev⟩, ⟨_, _, rfl, ⟨x0_Root, rfl, hx0_Root⟩, ⟨_, _, rfl, ⟨x0_Time, rfl, hx0_Time⟩, ⟨_, _, rfl, ⟨x0_Bits, rfl, hx0_Bits⟩, ⟨_, _, rfl, ⟨x0_Nonce, rfl, hx0_Nonce⟩, rfl⟩⟩⟩⟩⟩⟩, ⟨_, _, rfl, ⟨x1, rfl, hx1⟩, rfl⟩⟩
  exact ⟨_, _, rfl, trivial, rfl⟩
set_option maxRecDepth 100000 in
theorem law08_HeadMined_lifted (os : Os) (started : os.Started) (H : Type) (enc : TypeId × Value → H) :
    ReturnsInHanded {} Tryd.checked os 10 .any (fun w args => (Rows.headMinedSpec.pre enc Tryd.prog Tryd.f10 [] false w args ∧ laidMetH Tryd.prog Rows.headMinedRow.laid w) ∧ sizedMet enc Tryd.prog Tryd.f10 (OpenSpec.ofChange Rows.headMinedSpec) false w args)
      (Rows.headMinedSpec.post enc Tryd.prog Tryd.f10 false true false false) := by
  refine returnsInHanded_of_change_and (C := Tryd.checked) (X := fun w _ => laidMetH Tryd.prog Rows.headMinedRow.laid w) (fun _ _ _ hh h => h.of_heap hh) law08_HeadMined_own started (by kernel_rfl) (by kernel_rfl)
    (ChangeSpec.witness_shaped (enc := enc) (C := Tryd.checked) (os := os) (X := fun w _ => laidMetH Tryd.prog Rows.headMinedRow.laid w) false (World.laidAll Tryd.prog os Rows.headMinedRow.laid) #[.agg #[.int .u8 0, .int .u8 0, .int .u8 0, .int .u8 0, .int .u8 0, .int .u8 0, .int .u8 0, .int .u8 0, .int .u8 0, .int .u8 0, .int .u8 0, .int .u8 0, .int .u8 0, .int .u8 0, .int .u8 0, .int .u8 0, .int .u8 0, .int .u8 0, .int .u8 0, .int .u8 0, .int .u8 0, .int .u8 0, .int .u8 0, .int .u8 0, .int .u8 0, .int .u8 0, .int .u8 0, .int .u8 0, .int .u8 0, .int .u8 0, .int .u8 0, .int .u8 0, .int .u8 0, .int .u8 0, .int .u8 0, .int .u8 0, .int .u8 0, .int .u8 0, .int .u8 0, .int .u8 0, .int .u8 0, .int .u8 0, .int .u8 0, .int .u8 0, .int .u8 0, .int .u8 0, .int .u8 0, .int .u8 0, .int .u8 0, .int .u8 0, .int .u8 0, .int .u8 0, .int .u8 0, .int .u8 0, .int .u8 0, .int .u8 0, .int .u8 0, .int .u8 0, .int .u8 0, .int .u8 0, .int .u8 0, .int .u8 0, .int .u8 0, .int .u8 0, .int .u32 0, .int .u32 0, .int .u32 0], .int .u8 0] 8 (World.laidAll_os _ _ _)
      (World.shaped_of_ZipB (by kernel_rfl) (by kernel_rfl)) (by kernel_rfl) (by kernel_rfl) (by kernel_rfl)
      (by rw [MakeChecks.laidMetH_plain _ _ _ (by kernel_rfl)]; exact laidMet_laidAll _ (by kernel_rfl) (by kernel_rfl))) ?_
  intro W base args ds gs before hval hW _ hsz hL _
  exact M.law_contract (ss := [.st [.arr .u8 32, .arr .u8 32, .sc .u32, .sc .u32, .sc .u32], .sc .u8]) (G := M.theG) (c := M.law08_HeadMined_c) (tb := 4) rfl (fun ds h => by
      match ds, h with
      | [d0, d1], _ => rfl) (by kernel_rfl) (by kernel_rfl) (by kernel_rfl) (by kernel_rfl) (by kernel_rfl) M.law08_HeadMined_ok law08_HeadMined_law hval hW hsz (M.globs (by rwa [MakeChecks.laidMetH_plain _ _ _ (by kernel_rfl)] at hL))
theorem headMined_row : Rows.HeadMinedSaid :=
  OpenClaim.holds_of_wide 10 Tryd.f10 rfl rfl rfl rfl rfl rfl rfl ⟨rfl, rfl, rfl, rfl, rfl⟩ rfl rfl rfl rfl rfl (by kernel_rfl) (by kernel_rfl) (by kernel_rfl)
    (of_decide_eq_true (by kernel_rfl)) (by unfold Func.isWrapper; first | (rw [if_pos (by decide +kernel)]; kernel_rfl) | (rw [if_neg (by decide +kernel)]; exact ⟨rfl, rfl⟩))
    (fun os started H enc _ => law08_HeadMined_lifted os started H enc)
theorem headMined_card : Rows.HeadMinedCardSaid :=
  Claim7.holds_tied_plain_at .later [] [.data] true (true, "3f586422b4bcc8e156c7a75eeef5cb184319f97d1faa08789495172fa4ab45b4") false headMined_row (fun _ h => by cases h) (by kernel_rfl) (fun _ h => by cases h) headMined_row_tie rfl ⟨rfl, rfl⟩ (by kernel_rfl) rfl
    (fun f fn hf hfn => by
      obtain rfl : f = 10 := Option.some.inj ((show Tryd.prog.funcNamed "moneyer/moneyerlaw08.HeadMined" = some 10 by kernel_rfl).symm.trans hf) |>.symm
      obtain rfl : fn = Tryd.f10 := (Option.some.inj ((show Tryd.prog.funcs[10]? = some Tryd.f10 by kernel_rfl).symm.trans hfn)).symm
      exact ⟨by kernel_rfl, fun j t ht => by
        have hp : Tryd.f10.params = #[40, 5] := by kernel_rfl
        rw [hp] at ht
        have hm : t ∈ [40, 5] := by simpa using Array.mem_of_getElem? ht
        have hall : ([40, 5].all fun u => !Tryd.prog.wantsStandIn u) = true := by kernel_rfl
        exact (show Tryd.prog.wantsStandIn t = false by simpa using List.all_eq_true.1 hall t hm)⟩)
    (by kernel_rfl)
#print axioms headMined_card
end Go.Proofs.YtbdajagcinfeeaaDoor
