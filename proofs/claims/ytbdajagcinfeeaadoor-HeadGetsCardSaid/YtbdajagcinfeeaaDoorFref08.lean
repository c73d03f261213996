/- Part of the proofs: what functions of the program do: plain functions, and the walks that show it. No condition. -/
import Derived.KernelRfl
import Derived.Test.YtbdajagcinfeeaaDoorProg
import Derived.Test.YtbdajagcinfeeaaDoorLe
import Derived.Test.YtbdajagcinfeeaaDoorFref01
import Derived.Test.YtbdajagcinfeeaaDoorSwords
import Derived.Test.YtbdajagcinfeeaaDoorSshaS
import Derived.Test.YtbdajagcinfeeaaDoorSbigS
import Derived.Test.YtbdajagcinfeeaaDoorSendS
import Derived.Test.YtbdajagcinfeeaaDoorStarS
import Derived.Test.YtbdajagcinfeeaaDoorSshaK
set_option linter.unusedVariables false
set_option linter.unusedSimpArgs false
set_option autoImplicit false
namespace Go.Proofs.YtbdajagcinfeeaaDoor.M
open Go
noncomputable section
/-- the loop 0 of moneyer/moneyerref08.Get -/
def ref08_Get_h0 : Nat → Int → Int → (Vector UInt8 32) → (Vector UInt8 32) → UInt32 → UInt32 → UInt32 → (List UInt8) → (Vector UInt8 32) → (Vector UInt8 32) → UInt32 → UInt32 → UInt32 → Option (Vector UInt8 32 × Vector UInt8 32 × UInt32 × UInt32 × UInt32 × Int × Int)
  | 0, _, _, _, _, _, _, _, _, _, _, _, _, _ => none
  | k + 1, at_, i, t4, t41, t42, t43, t44, l, h_, h1, h2, h3, h4 => bif decide (i < (32 : Int)) then (if ((0 : Int) ≤ i) ∧ (i < (((List.length l) : Nat) : Int)) then
        if ((0 : Int) ≤ i) ∧ (i < (32 : Int)) then
          if ((0 : Int) ≤ (w64 ((32 : Int) + i))) ∧ ((w64 ((32 : Int) + i)) < (((List.length l) : Nat) : Int)) then
            ref08_Get_h0 k at_ (w64 (i + (1 : Int))) t4 t41 t42 t43 t44 l (Vector.setIfInBounds h_ (Int.toNat i) (List.getD l (Int.toNat i) (0 : UInt8))) (Vector.setIfInBounds h1 (Int.toNat i) (List.getD l (Int.toNat (w64 ((32 : Int) + i))) (0 : UInt8))) h2 h3 h4
          else none
        else none
      else none)
      else (if (List.length l) ≤ (140737488351232 : Nat) then
        some (h_, h1, (UInt64.toUInt32 (getN l (64 : Int) (4 : Int))), (UInt64.toUInt32 (getN l (68 : Int) (4 : Int))), (UInt64.toUInt32 (getN l (72 : Int) (4 : Int))), (w64 (at_ + (76 : Int))), (0 : Int))
      else none)
theorem ref08_Get_h0_q (k : Nat) (at_ : Int) (i : Int) (t4 : Vector UInt8 32) (t41 : Vector UInt8 32) (t42 : UInt32) (t43 : UInt32) (t44 : UInt32) (l : List UInt8) (h_ : Vector UInt8 32) (h1 : Vector UInt8 32) (h2 : UInt32) (h3 : UInt32) (h4 : UInt32) : ref08_Get_h0 (k + 1) at_ i t4 t41 t42 t43 t44 l h_ h1 h2 h3 h4 =
  (bif decide (i < (32 : Int)) then (if ((0 : Int) ≤ i) ∧ (i < (((List.length l) : Nat) : Int)) then
        if ((0 : Int) ≤ i) ∧ (i < (32 : Int)) then
          if ((0 : Int) ≤ (w64 ((32 : Int) + i))) ∧ ((w64 ((32 : Int) + i)) < (((List.length l) : Nat) : Int)) then
            ref08_Get_h0 k at_ (w64 (i + (1 : Int))) t4 t41 t42 t43 t44 l (Vector.setIfInBounds h_ (Int.toNat i) (List.getD l (Int.toNat i) (0 : UInt8))) (Vector.setIfInBounds h1 (Int.toNat i) (List.getD l (Int.toNat (w64 ((32 : Int) + i))) (0 : UInt8))) h2 h3 h4
          else none
        else none
      else none)
      else (if (List.length l) ≤ (140737488351232 : Nat) then
        some (h_, h1, (UInt64.toUInt32 (getN l (64 : Int) (4 : Int))), (UInt64.toUInt32 (getN l (68 : Int) (4 : Int))), (UInt64.toUInt32 (getN l (72 : Int) (4 : Int))), (w64 (at_ + (76 : Int))), (0 : Int))
      else none)) := by kernel_rfl
/-- moneyer/moneyerref08.Get -/
def ref08_Get (k : Nat) (b : List UInt8) (at_1 : Int) : Option (Vector UInt8 32 × Vector UInt8 32 × UInt32 × UInt32 × UInt32 × Int × Int) :=
  if ((List.length b) ≤ (140737488351232 : Nat)) ∧ ((76 : Int) ≤ (70368744177664 : Int)) then
    bif !(decide ((partE b at_1 (76 : Int)) = (0 : Int))) then (some ((Vector.replicate (32 : Nat) (0 : UInt8)), (Vector.replicate (32 : Nat) (0 : UInt8)), (0 : UInt32), (0 : UInt32), (0 : UInt32), (0 : Int), (partE b at_1 (76 : Int))))
      else (ref08_Get_h0 k at_1 (0 : Int) (Vector.replicate (32 : Nat) (0 : UInt8)) (Vector.replicate (32 : Nat) (0 : UInt8)) (0 : UInt32) (0 : UInt32) (0 : UInt32) (partL b at_1 (76 : Int)) (Vector.replicate (32 : Nat) (0 : UInt8)) (Vector.replicate (32 : Nat) (0 : UInt8)) (0 : UInt32) (0 : UInt32) (0 : UInt32))
  else none
theorem ref08_Get_q (k : Nat) (b : List UInt8) (at_1 : Int) : ref08_Get k b at_1 = (if ((List.length b) ≤ (140737488351232 : Nat)) ∧ ((76 : Int) ≤ (70368744177664 : Int)) then
    bif !(decide ((partE b at_1 (76 : Int)) = (0 : Int))) then (some ((Vector.replicate (32 : Nat) (0 : UInt8)), (Vector.replicate (32 : Nat) (0 : UInt8)), (0 : UInt32), (0 : UInt32), (0 : UInt32), (0 : Int), (partE b at_1 (76 : Int))))
      else (ref08_Get_h0 k at_1 (0 : Int) (Vector.replicate (32 : Nat) (0 : UInt8)) (Vector.replicate (32 : Nat) (0 : UInt8)) (0 : UInt32) (0 : UInt32) (0 : UInt32) (partL b at_1 (76 : Int)) (Vector.replicate (32 : Nat) (0 : UInt8)) (Vector.replicate (32 : Nat) (0 : UInt8)) (0 : UInt32) (0 : UInt32) (0 : UInt32))
  else none) := by kernel_rfl
theorem ref08_Get_spec (b : List UInt8) (a : Int) (hp : b.length ≤ 140737488351232) : Ev (fun k => ref08_Get k b a) (hgP b a, hgR b a, hgT b a, hgB b a, hgN b a, hgI b a, partE b a 76) := by
  rw [hgP_eq, hgR_eq, hgT_eq, hgB_eq, hgN_eq, hgI_eq]
  by_cases h : partE b a 76 = 0
  · have hl : (partL b a 76).length = 76 := partL_len h
    simp only [if_pos h]
    have go : ∀ l : List UInt8, l.length = 76 → Ev (fun k => ref08_Get_h0 k a 0 (Vector.replicate 32 0) (Vector.replicate 32 0) 0 0 0 l (Vector.replicate 32 0) (Vector.replicate 32 0) 0 0 0)
        (gP l, gR l, UInt64.toUInt32 (getN l 64 4), UInt64.toUInt32 (getN l 68 4), UInt64.toUInt32 (getN l 72 4), w64 (a + 76), (0 : Int)) := by
      intro l hl
      refine Ev.inv (H := fun k i (s : Vector UInt8 32 × Vector UInt8 32) => ref08_Get_h0 k a i (Vector.replicate 32 0) (Vector.replicate 32 0) 0 0 0 l s.1 s.2 0 0 0) (n := 32)
        (fun i s => ∀ j, j < 32 → List.getD (Vector.toList s.1) j 0 = (if j < i then l.getD j 0 else 0) ∧ List.getD (Vector.toList s.2) j 0 = (if j < i then l.getD (32 + j) 0 else 0)) ?_ ?_ 32 0 (Vector.replicate 32 0, Vector.replicate 32 0) (by omega) ?_
      · rintro i ⟨s1, s2⟩ hi hv h
        have w1 : w64 ((32 : Int) + (i : Int)) = ((32 + i : Nat) : Int) := by rw [w64_id (by omega) (by omega)]; omega
        refine Ev.step (fun k => ?_) (h (Vector.setIfInBounds s1 i (l.getD i 0), Vector.setIfInBounds s2 i (l.getD (32 + i) 0)) (fun j hj => ?_))
        · show ref08_Get_h0 (k + 1) a (i : Int) _ _ 0 0 0 l s1 s2 0 0 0 = _
          rw [ref08_Get_h0, bif_pos (by omega), if_pos (by omega), if_pos (by omega), w1, if_pos (by omega), w64_id (x := (i : Int) + 1) (by omega) (by omega)]
          rfl
        · obtain ⟨q1, q2⟩ := hv j hj
          have q1 : List.getD (Vector.toList s1) j 0 = (if j < i then l.getD j 0 else 0) := q1
          have q2 : List.getD (Vector.toList s2) j 0 = (if j < i then l.getD (32 + j) 0 else 0) := q2
          show List.getD (Vector.toList (Vector.setIfInBounds s1 i (l.getD i 0))) j 0 = _ ∧ List.getD (Vector.toList (Vector.setIfInBounds s2 i (l.getD (32 + i) 0))) j 0 = _
          rw [vget_set _ _ _ _ _ hi, vget_set _ _ _ _ _ hi, q1, q2]
          by_cases c : i = j
          · subst c
            rw [if_pos rfl, if_pos rfl, if_pos (by omega), if_pos (by omega)]
            exact ⟨rfl, rfl⟩
          · rw [if_neg c, if_neg c]
            by_cases d : j < i
            · rw [if_pos d, if_pos d, if_pos (by omega), if_pos (by omega)]
              exact ⟨rfl, rfl⟩
            · rw [if_neg d, if_neg d, if_neg (by omega), if_neg (by omega)]
              exact ⟨rfl, rfl⟩
      · rintro ⟨s1, s2⟩ hv
        have e1 : s1 = gP l := vecE fun j hj => by
          rw [gP_get l j hj]
          have := (hv j hj).1
          rw [if_pos hj] at this
          exact this
        have e2 : s2 = gR l := vecE fun j hj => by
          rw [gR_get l j hj]
          have := (hv j hj).2
          rw [if_pos hj] at this
          exact this
        subst e1 e2
        refine Ev.done fun k => ?_
        show ref08_Get_h0 (k + 1) a ((32 : Nat) : Int) _ _ 0 0 0 l (gP l) (gR l) 0 0 0 = _
        rw [ref08_Get_h0, bif_neg (by omega), if_pos (by omega)]
      · intro j hj
        rw [if_neg (by omega), if_neg (by omega)]
        constructor <;> exact vget_rep _ _
    rw [h]
    refine Ev.same (fun k => ?_) (go _ hl)
    rw [ref08_Get, if_pos ⟨hp, by decide⟩, decide_eq_true h]
    rfl
  · simp only [if_neg h]
    exact Ev.done fun k => by rw [ref08_Get, if_pos ⟨hp, by decide⟩, decide_eq_false h]; rfl

end
end Go.Proofs.YtbdajagcinfeeaaDoor.M

namespace Go.Proofs.YtbdajagcinfeeaaDoor.M
open Go
noncomputable section
/-- moneyer/moneyerref08.Read -/
def ref08_Read (b : List UInt8) : Option (Vector UInt8 32 × Vector UInt8 32 × UInt32 × UInt32 × UInt32 × Int) :=
  if (List.length b) ≤ (140737488351232 : Nat) then
    bif !(decide ((partE b (0 : Int) (76 : Int)) = (0 : Int))) then (some ((Vector.replicate (32 : Nat) (0 : UInt8)), (Vector.replicate (32 : Nat) (0 : UInt8)), (0 : UInt32), (0 : UInt32), (0 : UInt32), (partE b (0 : Int) (76 : Int))))
      else (bif decide ((hgI b (0 : Int)) < (((List.length b) : Nat) : Int)) then (some ((Vector.replicate (32 : Nat) (0 : UInt8)), (Vector.replicate (32 : Nat) (0 : UInt8)), (0 : UInt32), (0 : UInt32), (0 : UInt32), (5 : Int)))
        else (some ((hgP b (0 : Int)), (hgR b (0 : Int)), (hgT b (0 : Int)), (hgB b (0 : Int)), (hgN b (0 : Int)), (0 : Int))))
  else none
theorem ref08_Read_q (b : List UInt8) : ref08_Read b = (if (List.length b) ≤ (140737488351232 : Nat) then
    bif !(decide ((partE b (0 : Int) (76 : Int)) = (0 : Int))) then (some ((Vector.replicate (32 : Nat) (0 : UInt8)), (Vector.replicate (32 : Nat) (0 : UInt8)), (0 : UInt32), (0 : UInt32), (0 : UInt32), (partE b (0 : Int) (76 : Int))))
      else (bif decide ((hgI b (0 : Int)) < (((List.length b) : Nat) : Int)) then (some ((Vector.replicate (32 : Nat) (0 : UInt8)), (Vector.replicate (32 : Nat) (0 : UInt8)), (0 : UInt32), (0 : UInt32), (0 : UInt32), (5 : Int)))
        else (some ((hgP b (0 : Int)), (hgR b (0 : Int)), (hgT b (0 : Int)), (hgB b (0 : Int)), (hgN b (0 : Int)), (0 : Int))))
  else none) := by kernel_rfl
theorem hgI_1 {b : List UInt8} (h : partE b 0 76 = 0) : hgI b 0 = 76 := by rw [hgI_eq, if_pos h]; decide
theorem ref08_Read_spec (b : List UInt8) (hp : b.length ≤ 140737488351232) : ref08_Read b = some (rdV b (hgP b 0), rdV b (hgR b 0), rdW b (hgT b 0), rdW b (hgB b 0), rdW b (hgN b 0), rdE b) := by
  rw [ref08_Read, if_pos hp]
  by_cases h : partE b 0 76 = 0
  · rw [decide_eq_true h, hgI_1 h]
    by_cases g : 76 < b.length
    · have e : rdE b = 5 := by rw [rdE_eq, if_pos ⟨h, g⟩]
      rw [rdV_eq, rdV_eq, rdW_eq, rdW_eq, rdW_eq, e, decide_eq_true (p := (76 : Int) < ((b.length : Nat) : Int)) (by omega)]
      rfl
    · have e : rdE b = 0 := by rw [rdE_eq, if_neg (fun q => g q.2), h]
      rw [rdV_eq, rdV_eq, rdW_eq, rdW_eq, rdW_eq, e, decide_eq_false (p := (76 : Int) < ((b.length : Nat) : Int)) (by omega)]
      rfl
  · have e : rdE b = partE b 0 76 := by rw [rdE_eq, if_neg (fun q => h q.1)]
    rw [rdV_eq, rdV_eq, rdW_eq, rdW_eq, rdW_eq, e, if_neg h, if_neg h, if_neg h, if_neg h, if_neg h, decide_eq_false h]
    rfl

end
end Go.Proofs.YtbdajagcinfeeaaDoor.M

namespace Go.Proofs.YtbdajagcinfeeaaDoor.M
open Go
noncomputable section
set_option maxRecDepth 100000
set_option maxHeartbeats 0
noncomputable def ref08_Get_T : Tbl := [(52, [], ref01_Part_c), (53, [], ref01_Get_c)]
noncomputable def ref08_Get_C : CfgW := mkC Tryd.prog theG ref08_Get_T 73 0 false
def ref08_Get_lv : Nat → List Nat := fun i => bif Nat.beq i 0 then [1, 4, 7, 9, 10] else []
noncomputable abbrev ref08_Get_b : Code := Tryd.f29.body.getD .skip
noncomputable abbrev ref08_Get_r : List ResultVar := Tryd.f29.results.toList
def ref08_Get_hs : List Nat := []

def ref08_Get_enc (r : Vector UInt8 32 × Vector UInt8 32 × UInt32 × UInt32 × UInt32 × Int × Int) : CallOut := ⟨.tup [.pv (.st [.arr .u8 32 r.1, .arr .u8 32 r.2.1, .sc .u32 r.2.2.1, .sc .u32 r.2.2.2.1, .sc .u32 r.2.2.2.2.1]), .pv (.sc .i r.2.2.2.2.2.1), .pv (.sc .i r.2.2.2.2.2.2)], [], true, []⟩
def ref08_Get_s0 (at_ : Int) (i : Int) (t4 : Vector UInt8 32) (t41 : Vector UInt8 32) (t42 : UInt32) (t43 : UInt32) (t44 : UInt32) (l : List UInt8) (h_ : Vector UInt8 32) (h1 : Vector UInt8 32) (h2 : UInt32) (h3 : UInt32) (h4 : UInt32) : St := ⟨[(1, .pv (.sc .i at_)), (4, .p 60000 []), (7, .o 60001), (9, .p 60002 []), (10, .pv (.sc .i i))], [(60000, .box (.pv (.st [.arr .u8 32 t4, .arr .u8 32 t41, .sc .u32 t42, .sc .u32 t43, .sc .u32 t44]))), (60001, .row (.s .u8 l) false), (60002, .box (.pv (.st [.arr .u8 32 h_, .arr .u8 32 h1, .sc .u32 h2, .sc .u32 h3, .sc .u32 h4])))]⟩
theorem ref08_Get_g0 (at_ : Int) (i : Int) (t4 : Vector UInt8 32) (t41 : Vector UInt8 32) (t42 : UInt32) (t43 : UInt32) (t44 : UInt32) (l : List UInt8) (h_ : Vector UInt8 32) (h1 : Vector UInt8 32) (h2 : UInt32) (h3 : UInt32) (h4 : UInt32) (Q : CallOut → Prop) : headRound ref08_Get_C ref08_Get_lv [true, true, true, true, false, true, false] ref08_Get_b (ref08_Get_s0 at_ i t4 t41 t42 t43 t44 l h_ h1 h2 h3 h4) (fnK ref08_Get_C ref08_Get_r ref08_Get_hs Q) =
    (condP (decide (i < (32 : Int))) ((((0 : Int) ≤ i) ∧ (i < (((List.length l) : Nat) : Int))) ∧ ((((0 : Int) ≤ i) ∧ (i < (32 : Int))) ∧ ((((0 : Int) ≤ (w64 ((32 : Int) + i))) ∧ ((w64 ((32 : Int) + i)) < (((List.length l) : Nat) : Int))) ∧ ((((0 : Int) ≤ i) ∧ (i < (32 : Int))) ∧ (headP ref08_Get_C ref08_Get_lv [true, true, true, true, false, true, false] ref08_Get_b (ref08_Get_s0 at_ (w64 (i + (1 : Int))) t4 t41 t42 t43 t44 l (Vector.setIfInBounds h_ (Int.toNat i) (List.getD l (Int.toNat i) (0 : UInt8))) (Vector.setIfInBounds h1 (Int.toNat i) (List.getD l (Int.toNat (w64 ((32 : Int) + i))) (0 : UInt8))) h2 h3 h4) (fnK ref08_Get_C ref08_Get_r ref08_Get_hs Q)))))) (((List.length l) ≤ (140737488351232 : Nat)) ∧ (((List.length l) ≤ (140737488351232 : Nat)) ∧ (((List.length l) ≤ (140737488351232 : Nat)) ∧ (Q (ref08_Get_enc (h_, h1, (UInt64.toUInt32 (getN l (64 : Int) (4 : Int))), (UInt64.toUInt32 (getN l (68 : Int) (4 : Int))), (UInt64.toUInt32 (getN l (72 : Int) (4 : Int))), (w64 (at_ + (76 : Int))), (0 : Int)))))))) := by kernel_rfl
theorem ref08_Get_k0 {r : Vector UInt8 32 × Vector UInt8 32 × UInt32 × UInt32 × UInt32 × Int × Int} {Q : CallOut → Prop} (hQ : Q (ref08_Get_enc r)) : ∀ k : Nat, (∀ (at_ : Int) (i : Int) (t4 : Vector UInt8 32) (t41 : Vector UInt8 32) (t42 : UInt32) (t43 : UInt32) (t44 : UInt32) (l : List UInt8) (h_ : Vector UInt8 32) (h1 : Vector UInt8 32) (h2 : UInt32) (h3 : UInt32) (h4 : UInt32), ref08_Get_h0 k at_ i t4 t41 t42 t43 t44 l h_ h1 h2 h3 h4 = some r → headP ref08_Get_C ref08_Get_lv [true, true, true, true, false, true, false] ref08_Get_b (ref08_Get_s0 at_ i t4 t41 t42 t43 t44 l h_ h1 h2 h3 h4) (fnK ref08_Get_C ref08_Get_r ref08_Get_hs Q))
  | 0 => fun _ _ _ _ _ _ _ _ _ _ _ _ _ h => no_ok h
  | k + 1 => fun at_ i t4 t41 t42 t43 t44 l h_ h1 h2 h3 h4 h => headP_step (Eq.mpr (ref08_Get_g0 at_ i t4 t41 t42 t43 t44 l h_ h1 h2 h3 h4 Q) (have h := (ref08_Get_h0_q k at_ i t4 t41 t42 t43 t44 l h_ h1 h2 h3 h4).symm.trans h; cond_ok h (fun h => ite_ok h fun hc0 h => ite_ok h fun hc1 h => ite_ok h fun hc2 h => ⟨hc1, (ref08_Get_k0 hQ k) _ _ _ _ _ _ _ _ _ _ _ _ _ h⟩) (fun h => ite_ok h fun hc0 h => ⟨hc0, ⟨hc0, ret_ok (Q := Q) (e := ref08_Get_enc) h hQ⟩⟩)))
theorem ref08_Get_e (b : List UInt8) (at_1 : Int) (Q : CallOut → Prop) : evalFnP ref08_Get_C ref08_Get_lv ref08_Get_r ref08_Get_hs ref08_Get_b [.pv (.sl .u8 b), .pv (.sc .i at_1)] [] Q =
    ((((List.length b) ≤ (140737488351232 : Nat)) ∧ ((76 : Int) ≤ (70368744177664 : Int))) ∧ (condP (!(decide ((partE b at_1 (76 : Int)) = (0 : Int)))) (Q (ref08_Get_enc ((Vector.replicate (32 : Nat) (0 : UInt8)), (Vector.replicate (32 : Nat) (0 : UInt8)), (0 : UInt32), (0 : UInt32), (0 : UInt32), (0 : Int), (partE b at_1 (76 : Int))))) (headP ref08_Get_C ref08_Get_lv [true, true, true, true, false, true, false] ref08_Get_b (ref08_Get_s0 at_1 (0 : Int) (Vector.replicate (32 : Nat) (0 : UInt8)) (Vector.replicate (32 : Nat) (0 : UInt8)) (0 : UInt32) (0 : UInt32) (0 : UInt32) (partL b at_1 (76 : Int)) (Vector.replicate (32 : Nat) (0 : UInt8)) (Vector.replicate (32 : Nat) (0 : UInt8)) (0 : UInt32) (0 : UInt32) (0 : UInt32)) (fnK ref08_Get_C ref08_Get_r ref08_Get_hs Q)))) := by kernel_rfl
theorem ref08_Get_w {k : Nat} (b : List UInt8) (at_1 : Int) {r} {Q : CallOut → Prop} (h : ref08_Get k b at_1 = some r) (hQ : Q (ref08_Get_enc r)) : evalFnP ref08_Get_C ref08_Get_lv ref08_Get_r ref08_Get_hs ref08_Get_b [.pv (.sl .u8 b), .pv (.sc .i at_1)] [] Q :=
  Eq.mpr (ref08_Get_e b at_1 Q) (have h := (ref08_Get_q k b at_1).symm.trans h; ite_ok h fun hc0 h => cond_ok h (fun h => ret_ok (Q := Q) (e := ref08_Get_enc) h hQ) (fun h => (ref08_Get_k0 hQ _) _ _ _ _ _ _ _ _ _ _ _ _ _ h))
def ref08_Get_c : Ans
  | [.pv (.sl .u8 b), .pv (.sc .i at_1)], [] => some (some (b.length ≤ 140737488351232), ref08_Get_enc ((hgP b at_1, hgR b at_1, hgT b at_1, hgB b at_1, hgN b at_1, hgI b at_1, partE b at_1 76)))
  | _, _ => none
theorem ref08_Get_tok : TblOK Tryd.prog theG ref08_Get_T := .cons ⟨by kernel_rfl, ref01_Part_ok⟩ (.cons ⟨by kernel_rfl, ref01_Get_ok⟩ (.nil))
theorem ref08_Get_ok : FnOK Tryd.prog theG 29 (unW ref08_Get_c) := by
  refine FnOK.ofC (T := ref08_Get_T) (nt := 73) (np := 0) (nf := false) (hs := ref08_Get_hs) (fn := Tryd.f29) (body := ref08_Get_b) ref08_Get_tok (by kernel_rfl) (by kernel_rfl) (by kernel_rfl) (by kernel_rfl) (c := ref08_Get_c) (lv := ref08_Get_lv) ?_
  intro xs mem p out h hp
  unfold ref08_Get_c at h
  split at h
  · cases h
    obtain ⟨k, hk⟩ := ref08_Get_spec _ _ hp
    exact ref08_Get_w _ _ hk rfl
  · cases h
end
end Go.Proofs.YtbdajagcinfeeaaDoor.M

namespace Go.Proofs.YtbdajagcinfeeaaDoor.M
open Go
noncomputable section
set_option maxRecDepth 100000
set_option maxHeartbeats 0
noncomputable def ref08_Read_T : Tbl := [(29, [], ref08_Get_c)]
noncomputable def ref08_Read_C : CfgW := mkC Tryd.prog theG ref08_Read_T 23 0 false
def ref08_Read_lv : Nat → List Nat := fun i => []
noncomputable abbrev ref08_Read_b : Code := Tryd.f31.body.getD .skip
noncomputable abbrev ref08_Read_r : List ResultVar := Tryd.f31.results.toList
def ref08_Read_hs : List Nat := []

def ref08_Read_enc (r : Vector UInt8 32 × Vector UInt8 32 × UInt32 × UInt32 × UInt32 × Int) : CallOut := ⟨.tup [.pv (.st [.arr .u8 32 r.1, .arr .u8 32 r.2.1, .sc .u32 r.2.2.1, .sc .u32 r.2.2.2.1, .sc .u32 r.2.2.2.2.1]), .pv (.sc .i r.2.2.2.2.2)], [], true, []⟩
theorem ref08_Read_e (b : List UInt8) (Q : CallOut → Prop) : evalFnP ref08_Read_C ref08_Read_lv ref08_Read_r ref08_Read_hs ref08_Read_b [.pv (.sl .u8 b)] [] Q =
    (((List.length b) ≤ (140737488351232 : Nat)) ∧ (condP (!(decide ((partE b (0 : Int) (76 : Int)) = (0 : Int)))) (Q (ref08_Read_enc ((Vector.replicate (32 : Nat) (0 : UInt8)), (Vector.replicate (32 : Nat) (0 : UInt8)), (0 : UInt32), (0 : UInt32), (0 : UInt32), (partE b (0 : Int) (76 : Int))))) (condP (decide ((hgI b (0 : Int)) < (((List.length b) : Nat) : Int))) (Q (ref08_Read_enc ((Vector.replicate (32 : Nat) (0 : UInt8)), (Vector.replicate (32 : Nat) (0 : UInt8)), (0 : UInt32), (0 : UInt32), (0 : UInt32), (5 : Int)))) (Q (ref08_Read_enc ((hgP b (0 : Int)), (hgR b (0 : Int)), (hgT b (0 : Int)), (hgB b (0 : Int)), (hgN b (0 : Int)), (0 : Int))))))) := by kernel_rfl
theorem ref08_Read_w (b : List UInt8) {r} {Q : CallOut → Prop} (h : ref08_Read b = some r) (hQ : Q (ref08_Read_enc r)) : evalFnP ref08_Read_C ref08_Read_lv ref08_Read_r ref08_Read_hs ref08_Read_b [.pv (.sl .u8 b)] [] Q :=
  Eq.mpr (ref08_Read_e b Q) (have h := (ref08_Read_q b).symm.trans h; ite_ok h fun hc0 h => cond_ok h (fun h => ret_ok (Q := Q) (e := ref08_Read_enc) h hQ) (fun h => cond_ok h (fun h => ret_ok (Q := Q) (e := ref08_Read_enc) h hQ) (fun h => ret_ok (Q := Q) (e := ref08_Read_enc) h hQ)))
def ref08_Read_c : Ans
  | [.pv (.sl .u8 b)], [] => some (some (b.length ≤ 140737488351232), ref08_Read_enc ((rdV b (hgP b 0), rdV b (hgR b 0), rdW b (hgT b 0), rdW b (hgB b 0), rdW b (hgN b 0), rdE b)))
  | _, _ => none
theorem ref08_Read_tok : TblOK Tryd.prog theG ref08_Read_T := .cons ⟨by kernel_rfl, ref08_Get_ok⟩ (.nil)
theorem ref08_Read_ok : FnOK Tryd.prog theG 31 (unW ref08_Read_c) := by
  refine FnOK.ofC (T := ref08_Read_T) (nt := 23) (np := 0) (nf := false) (hs := ref08_Read_hs) (fn := Tryd.f31) (body := ref08_Read_b) ref08_Read_tok (by kernel_rfl) (by kernel_rfl) (by kernel_rfl) (by kernel_rfl) (c := ref08_Read_c) (lv := ref08_Read_lv) ?_
  intro xs mem p out h hp
  unfold ref08_Read_c at h
  split at h
  · cases h
    exact ref08_Read_w _ (ref08_Read_spec _ hp) rfl
  · cases h
end
end Go.Proofs.YtbdajagcinfeeaaDoor.M
