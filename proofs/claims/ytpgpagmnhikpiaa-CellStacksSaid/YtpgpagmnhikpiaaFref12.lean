/- Part of the proofs: what functions of the program do: plain functions, and the walks that show it. No condition. -/
import Derived.KernelRfl
import Derived.Test.YtpgpagmnhikpiaaProg
import Derived.Test.YtpgpagmnhikpiaaLd
import Derived.Test.YtpgpagmnhikpiaaFref00
import Derived.Test.YtpgpagmnhikpiaaSwords
import Derived.Test.YtpgpagmnhikpiaaScellS
set_option linter.unusedVariables false
set_option linter.unusedSimpArgs false
set_option autoImplicit false
namespace Go.Proofs.Ytpgpagmnhikpiaa.M
open Go
noncomputable section
/-- the loop 0 of moneyer/moneyerref12.copied -/
def ref12_copied_h0 : Nat → (List PV) → Int → (List PV) → Option (List PV)
  | 0, _, _, _ => none
  | k + 1, l, i, out => bif decide (i < (((List.length l) : Nat) : Int)) then (if (((0 : Int) ≤ i) ∧ (i < (((List.length l) : Nat) : Int))) ∧ ((TY.chk (TY.sl EK.u8) (List.getD l (Int.toNat i) PV.nilp)) = true) then
        if (List.length (PV.slv EK.u8 (List.getD l (Int.toNat i) PV.nilp))) ≤ (70368744177664 : Nat) then
          if (((List.length (out ++ ([(RC.sl (RC.s EK.u8 (PV.slv EK.u8 (List.getD l (Int.toNat i) PV.nilp))))] : List PV))) * (24 : Nat)) ≤ (70368744177664 : Nat)) ∧ ((List.length (out ++ ([(RC.sl (RC.s EK.u8 (PV.slv EK.u8 (List.getD l (Int.toNat i) PV.nilp))))] : List PV))) ≤ (70368744177664 : Nat)) then
            ref12_copied_h0 k l (w64 (i + (1 : Int))) (out ++ ([(RC.sl (RC.s EK.u8 (PV.slv EK.u8 (List.getD l (Int.toNat i) PV.nilp))))] : List PV))
          else none
        else none
      else none)
      else (some out)
theorem ref12_copied_h0_q (k : Nat) (l : List PV) (i : Int) (out : List PV) : ref12_copied_h0 (k + 1) l i out =
  (bif decide (i < (((List.length l) : Nat) : Int)) then (if (((0 : Int) ≤ i) ∧ (i < (((List.length l) : Nat) : Int))) ∧ ((TY.chk (TY.sl EK.u8) (List.getD l (Int.toNat i) PV.nilp)) = true) then
        if (List.length (PV.slv EK.u8 (List.getD l (Int.toNat i) PV.nilp))) ≤ (70368744177664 : Nat) then
          if (((List.length (out ++ ([(RC.sl (RC.s EK.u8 (PV.slv EK.u8 (List.getD l (Int.toNat i) PV.nilp))))] : List PV))) * (24 : Nat)) ≤ (70368744177664 : Nat)) ∧ ((List.length (out ++ ([(RC.sl (RC.s EK.u8 (PV.slv EK.u8 (List.getD l (Int.toNat i) PV.nilp))))] : List PV))) ≤ (70368744177664 : Nat)) then
            ref12_copied_h0 k l (w64 (i + (1 : Int))) (out ++ ([(RC.sl (RC.s EK.u8 (PV.slv EK.u8 (List.getD l (Int.toNat i) PV.nilp))))] : List PV))
          else none
        else none
      else none)
      else (some out)) := by kernel_rfl
/-- moneyer/moneyerref12.copied -/
def ref12_copied (k : Nat) (l : List PV) : Option (List PV) :=
  ref12_copied_h0 k l (0 : Int) ([] : List PV)
theorem ref12_copied_q (k : Nat) (l : List PV) : ref12_copied k l = (ref12_copied_h0 k l (0 : Int) ([] : List PV)) := by kernel_rfl
theorem ref12_copied_spec (l : List PV) (hp : cellsB l = true) : ∃ k, ref12_copied k l = some l := by
  show Ev (fun k => ref12_copied k l) _
  refine Ev.same (fun k => ref12_copied_q k l) ?_
  have hlen := cellsB_len hp
  have gen : ∀ j i, i + j = l.length → Ev (fun f => ref12_copied_h0 f l ((i : Nat) : Int) (l.take i)) l := by
    intro j
    induction j with
    | zero =>
      intro i hi
      refine Ev.done fun f => ?_
      rw [ref12_copied_h0_q, bif_neg (by omega), List.take_of_length_le (by omega)]
    | succ j ih =>
      intro i hi
      refine Ev.step (fun f => ?_) (ih (i + 1) (by omega))
      obtain ⟨ys, e, hy⟩ := cellsB_at hp (i := i) (by omega)
      have t := take_getD (l := l) .nilp (show i < l.length by omega)
      rw [e] at t
      rw [ref12_copied_h0_q, bif_pos (by omega), Int.toNat_natCast, e, if_pos ⟨by omega, rfl⟩, w64_id (by omega) (by omega)]
      show (if ys.length ≤ 70368744177664 then (if ((l.take i ++ [PV.sl .u8 ys]).length * 24 ≤ 70368744177664 ∧ (l.take i ++ [PV.sl .u8 ys]).length ≤ 70368744177664) then _ else none) else none) = _
      rw [if_pos (by omega), t, if_pos (by rw [List.length_take]; omega)]
      show ref12_copied_h0 f l (((i : Nat) : Int) + 1) (l.take i ++ [PV.sl .u8 ys]) = _
      rw [t]
      rfl
  exact gen l.length 0 (by omega)

end
end Go.Proofs.Ytpgpagmnhikpiaa.M

namespace Go.Proofs.Ytpgpagmnhikpiaa.M
open Go
noncomputable section
/-- moneyer/moneyerref12.Push -/
def ref12_Push (l : List PV) (b : List UInt8) : Option (Int × List PV) :=
  bif eqb (decide ((64 : Int) ≤ (((List.length l) : Nat) : Int))) false then (bif bif false then true else (decide ((3000 : Int) < (((List.length b) : Nat) : Int))) then (some ((3 : Int), ([] : List PV)))
      else (if (cellsB l) = true then
        if (List.length b) ≤ (70368744177664 : Nat) then
          if (((List.length (l ++ ([(RC.sl (RC.s EK.u8 b))] : List PV))) * (24 : Nat)) ≤ (70368744177664 : Nat)) ∧ ((List.length (l ++ ([(RC.sl (RC.s EK.u8 b))] : List PV))) ≤ (70368744177664 : Nat)) then
            some ((0 : Int), (l ++ ([(RC.sl (RC.s EK.u8 b))] : List PV)))
          else none
        else none
      else none))
    else (some ((3 : Int), ([] : List PV)))
theorem ref12_Push_q (l : List PV) (b : List UInt8) : ref12_Push l b = (bif eqb (decide ((64 : Int) ≤ (((List.length l) : Nat) : Int))) false then (bif bif false then true else (decide ((3000 : Int) < (((List.length b) : Nat) : Int))) then (some ((3 : Int), ([] : List PV)))
      else (if (cellsB l) = true then
        if (List.length b) ≤ (70368744177664 : Nat) then
          if (((List.length (l ++ ([(RC.sl (RC.s EK.u8 b))] : List PV))) * (24 : Nat)) ≤ (70368744177664 : Nat)) ∧ ((List.length (l ++ ([(RC.sl (RC.s EK.u8 b))] : List PV))) ≤ (70368744177664 : Nat)) then
            some ((0 : Int), (l ++ ([(RC.sl (RC.s EK.u8 b))] : List PV)))
          else none
        else none
      else none))
    else (some ((3 : Int), ([] : List PV)))) := by kernel_rfl
theorem ref12_Push_spec (l : List PV) (b : List UInt8) (hp : cellsB l = true) : ref12_Push l b = some (pushS l b) := by
  have hlen := cellsB_len hp
  rw [ref12_Push_q]
  simp only [eqb_f, cond_false]
  unfold pushS
  by_cases h1 : 64 ≤ l.length
  · rw [decide_eq_true (by omega), Bool.not_true, cond_false, if_pos (.inl h1)]
  · rw [decide_eq_false (by omega), Bool.not_false, cond_true]
    by_cases h2 : 3000 < b.length
    · rw [bif_pos (by omega), if_pos (.inr h2)]
    · rw [bif_neg (by omega), if_pos hp, if_pos (by omega), if_pos (by simp; omega), if_neg (by omega)]
      rfl

end
end Go.Proofs.Ytpgpagmnhikpiaa.M

namespace Go.Proofs.Ytpgpagmnhikpiaa.M
open Go
noncomputable section
/-- moneyer/moneyerref12.Pop -/
def ref12_Pop (l : List PV) (n : Int) : Option (Int × List PV × List PV) :=
  bif decide (n < (0 : Int)) then (some ((2 : Int), ([] : List PV), ([] : List PV)))
    else (bif decide ((((List.length l) : Nat) : Int) < n) then (some ((6 : Int), ([] : List PV), ([] : List PV)))
      else (if ((0 : Int) ≤ (0 : Int)) ∧ (((0 : Int) ≤ (w64 ((((List.length l) : Nat) : Int) - n))) ∧ ((w64 ((((List.length l) : Nat) : Int) - n)) ≤ (((List.length l) : Nat) : Int))) then
        if (cellsB (List.take ((Int.toNat (w64 ((((List.length l) : Nat) : Int) - n))) - (Int.toNat (0 : Int))) (List.drop (Int.toNat (0 : Int)) l))) = true then
          if ((0 : Int) ≤ (w64 ((((List.length l) : Nat) : Int) - n))) ∧ (((w64 ((((List.length l) : Nat) : Int) - n)) ≤ (((List.length l) : Nat) : Int)) ∧ ((((List.length l) : Nat) : Int) ≤ (((List.length l) : Nat) : Int))) then
            if (cellsB (List.take ((Int.toNat (((List.length l) : Nat) : Int)) - (Int.toNat (w64 ((((List.length l) : Nat) : Int) - n)))) (List.drop (Int.toNat (w64 ((((List.length l) : Nat) : Int) - n))) l))) = true then
              some ((0 : Int), (List.take ((Int.toNat (w64 ((((List.length l) : Nat) : Int) - n))) - (Int.toNat (0 : Int))) (List.drop (Int.toNat (0 : Int)) l)), (List.take ((Int.toNat (((List.length l) : Nat) : Int)) - (Int.toNat (w64 ((((List.length l) : Nat) : Int) - n)))) (List.drop (Int.toNat (w64 ((((List.length l) : Nat) : Int) - n))) l)))
            else none
          else none
        else none
      else none))
theorem ref12_Pop_q (l : List PV) (n : Int) : ref12_Pop l n = (bif decide (n < (0 : Int)) then (some ((2 : Int), ([] : List PV), ([] : List PV)))
    else (bif decide ((((List.length l) : Nat) : Int) < n) then (some ((6 : Int), ([] : List PV), ([] : List PV)))
      else (if ((0 : Int) ≤ (0 : Int)) ∧ (((0 : Int) ≤ (w64 ((((List.length l) : Nat) : Int) - n))) ∧ ((w64 ((((List.length l) : Nat) : Int) - n)) ≤ (((List.length l) : Nat) : Int))) then
        if (cellsB (List.take ((Int.toNat (w64 ((((List.length l) : Nat) : Int) - n))) - (Int.toNat (0 : Int))) (List.drop (Int.toNat (0 : Int)) l))) = true then
          if ((0 : Int) ≤ (w64 ((((List.length l) : Nat) : Int) - n))) ∧ (((w64 ((((List.length l) : Nat) : Int) - n)) ≤ (((List.length l) : Nat) : Int)) ∧ ((((List.length l) : Nat) : Int) ≤ (((List.length l) : Nat) : Int))) then
            if (cellsB (List.take ((Int.toNat (((List.length l) : Nat) : Int)) - (Int.toNat (w64 ((((List.length l) : Nat) : Int) - n)))) (List.drop (Int.toNat (w64 ((((List.length l) : Nat) : Int) - n))) l))) = true then
              some ((0 : Int), (List.take ((Int.toNat (w64 ((((List.length l) : Nat) : Int) - n))) - (Int.toNat (0 : Int))) (List.drop (Int.toNat (0 : Int)) l)), (List.take ((Int.toNat (((List.length l) : Nat) : Int)) - (Int.toNat (w64 ((((List.length l) : Nat) : Int) - n)))) (List.drop (Int.toNat (w64 ((((List.length l) : Nat) : Int) - n))) l)))
            else none
          else none
        else none
      else none))) := by kernel_rfl
theorem ref12_Pop_spec (l : List PV) (n : Int) (hp : cellsB l = true ∧ I64 n) : ref12_Pop l n = some (popS l n) := by
  obtain ⟨hp, n1, n2⟩ := hp
  have hlen := cellsB_len hp
  rw [ref12_Pop_q]
  unfold popS
  by_cases h1 : n < 0
  · rw [bif_pos h1, if_pos h1]
  · rw [bif_neg h1, if_neg h1]
    by_cases h2 : ((l.length : Nat) : Int) < n
    · rw [bif_pos h2, if_pos h2]
    · have e : w64 (((l.length : Nat) : Int) - n) = ((l.length - n.toNat : Nat) : Int) := by rw [w64_id (by omega) (by omega)]; omega
      have e2 : List.take (Int.toNat ((l.length : Nat) : Int) - Int.toNat ((l.length - n.toNat : Nat) : Int)) (List.drop (Int.toNat ((l.length - n.toNat : Nat) : Int)) l) = l.drop (l.length - n.toNat) := by
        rw [List.take_of_length_le]
        · rfl
        · simp
      rw [bif_neg h2, if_neg h2, e, take_to, Int.toNat_natCast, if_pos (by omega), if_pos (cellsB_take hp _), if_pos (by omega)]
      simp only [Int.toNat_natCast] at e2
      simp only [Int.toNat_natCast]
      rw [e2, if_pos (cellsB_drop hp _)]

end
end Go.Proofs.Ytpgpagmnhikpiaa.M

namespace Go.Proofs.Ytpgpagmnhikpiaa.M
open Go
noncomputable section
/-- the loop 0 of moneyer/moneyerref12.Same -/
def ref12_Same_h0 : Nat → (List PV) → (List PV) → Int → Option (Bool)
  | 0, _, _, _ => none
  | k + 1, a, b, i => bif decide (i < (((List.length a) : Nat) : Int)) then (if (((0 : Int) ≤ i) ∧ (i < (((List.length a) : Nat) : Int))) ∧ ((TY.chk (TY.sl EK.u8) (List.getD a (Int.toNat i) PV.nilp)) = true) then
        if (((0 : Int) ≤ i) ∧ (i < (((List.length b) : Nat) : Int))) ∧ ((TY.chk (TY.sl EK.u8) (List.getD b (Int.toNat i) PV.nilp)) = true) then
          if (List.length (PV.slv EK.u8 (List.getD a (Int.toNat i) PV.nilp))) ≤ (1152921504606846976 : Nat) then
            bif !(decide ((PV.slv EK.u8 (List.getD a (Int.toNat i) PV.nilp)) = (PV.slv EK.u8 (List.getD b (Int.toNat i) PV.nilp)))) then (some false)
              else (ref12_Same_h0 k a b (w64 (i + (1 : Int))))
          else none
        else none
      else none)
      else (some true)
theorem ref12_Same_h0_q (k : Nat) (a : List PV) (b : List PV) (i : Int) : ref12_Same_h0 (k + 1) a b i =
  (bif decide (i < (((List.length a) : Nat) : Int)) then (if (((0 : Int) ≤ i) ∧ (i < (((List.length a) : Nat) : Int))) ∧ ((TY.chk (TY.sl EK.u8) (List.getD a (Int.toNat i) PV.nilp)) = true) then
        if (((0 : Int) ≤ i) ∧ (i < (((List.length b) : Nat) : Int))) ∧ ((TY.chk (TY.sl EK.u8) (List.getD b (Int.toNat i) PV.nilp)) = true) then
          if (List.length (PV.slv EK.u8 (List.getD a (Int.toNat i) PV.nilp))) ≤ (1152921504606846976 : Nat) then
            bif !(decide ((PV.slv EK.u8 (List.getD a (Int.toNat i) PV.nilp)) = (PV.slv EK.u8 (List.getD b (Int.toNat i) PV.nilp)))) then (some false)
              else (ref12_Same_h0 k a b (w64 (i + (1 : Int))))
          else none
        else none
      else none)
      else (some true)) := by kernel_rfl
/-- moneyer/moneyerref12.Same -/
def ref12_Same (k : Nat) (a : List PV) (b : List PV) : Option (Bool) :=
  bif !(decide ((((List.length a) : Nat) : Int) = (((List.length b) : Nat) : Int))) then (some false)
    else (ref12_Same_h0 k a b (0 : Int))
theorem ref12_Same_q (k : Nat) (a : List PV) (b : List PV) : ref12_Same k a b = (bif !(decide ((((List.length a) : Nat) : Int) = (((List.length b) : Nat) : Int))) then (some false)
    else (ref12_Same_h0 k a b (0 : Int))) := by kernel_rfl
theorem ref12_Same_spec (a b : List PV) (hp : cellsB a = true ∧ cellsB b = true) : ∃ k, ref12_Same k a b = some (decide (a.map cellOf = b.map cellOf)) := by
  obtain ⟨ha, hb⟩ := hp
  have la := cellsB_len ha
  have lb := cellsB_len hb
  show Ev (fun k => ref12_Same k a b) _
  refine Ev.same (fun k => ref12_Same_q k a b) ?_
  by_cases hl : a.length = b.length
  · refine Ev.same (g := fun k => ref12_Same_h0 k a b 0) (fun k => by rw [hl]; simp) ?_
    have st : ∀ k (i : Nat), i < (a.map cellOf).length → ref12_Same_h0 (k + 1) a b (i : Int) = bif !(decide ((a.map cellOf).getD i [] = (b.map cellOf).getD i [])) then some false else ref12_Same_h0 k a b ((i : Int) + 1) := by
      intro k i hi
      rw [List.length_map] at hi
      obtain ⟨ys, e1, h1⟩ := cellsB_at ha hi
      obtain ⟨zs, e2, h2⟩ := cellsB_at hb (i := i) (by omega)
      rw [ref12_Same_h0_q, bif_pos (by omega), Int.toNat_natCast, map_getD hi, map_getD (by omega), e1, e2, if_pos ⟨by omega, rfl⟩, if_pos ⟨by omega, rfl⟩, w64_id (by omega) (by omega)]
      exact if_pos (show ys.length ≤ 1152921504606846976 by omega)
    refine same_loop (H := fun k i => ref12_Same_h0 k a b i) [] (by simpa using hl) (fun k => ?_) (fun k i hi e => ?_) (fun k i hi e => ?_)
    · rw [List.length_map, ref12_Same_h0_q, bif_neg (by omega)]
    · rw [st k i hi, decide_eq_false e]; rfl
    · rw [st k i hi, decide_eq_true e]; rfl
  · refine ⟨0, ?_⟩
    simp only
    rw [decide_eq_false (fun h => hl (by omega)), decide_eq_false (fun h => hl (by simpa using congrArg List.length h))]
    rfl

end
end Go.Proofs.Ytpgpagmnhikpiaa.M

namespace Go.Proofs.Ytpgpagmnhikpiaa.M
open Go
noncomputable section
set_option maxRecDepth 100000
noncomputable def ref12_copied_T : Tbl := [(33, [], ref00_Copy_c)]
noncomputable def ref12_copied_C : CfgW := mkC Try.prog noG ref12_copied_T 20 0 true
def ref12_copied_lv : Nat → List Nat := fun i => bif Nat.beq i 0 then [0, 3, 4] else []
noncomputable abbrev ref12_copied_b : Code := Try.f32.body.getD .skip
noncomputable abbrev ref12_copied_r : List ResultVar := Try.f32.results.toList
def ref12_copied_hs : List Nat := []

def ref12_copied_enc (r : List PV) : CallOut := ⟨.o 60000, [(60000, .row (.p 1 r) false)], false, []⟩
def ref12_copied_s0 (l : List PV) (i : Int) (out : List PV) : St := ⟨[(0, .pv (.sp 1 l)), (3, .o 60000), (4, .pv (.sc .i i))], [(60000, .row (.p 1 out) false)]⟩
theorem ref12_copied_g0 (l : List PV) (i : Int) (out : List PV) (Q : CallOut → Prop) : headRound ref12_copied_C ref12_copied_lv [true, true, false, true, false] ref12_copied_b (ref12_copied_s0 l i out) (fnK ref12_copied_C ref12_copied_r ref12_copied_hs Q) =
    (condP (decide (i < (((List.length l) : Nat) : Int))) (((((0 : Int) ≤ i) ∧ (i < (((List.length l) : Nat) : Int))) ∧ ((TY.chk (TY.sl EK.u8) (List.getD l (Int.toNat i) PV.nilp)) = true)) ∧ (((List.length (PV.slv EK.u8 (List.getD l (Int.toNat i) PV.nilp))) ≤ (70368744177664 : Nat)) ∧ (((((List.length (out ++ ([(RC.sl (RC.s EK.u8 (PV.slv EK.u8 (List.getD l (Int.toNat i) PV.nilp))))] : List PV))) * (24 : Nat)) ≤ (70368744177664 : Nat)) ∧ ((List.length (out ++ ([(RC.sl (RC.s EK.u8 (PV.slv EK.u8 (List.getD l (Int.toNat i) PV.nilp))))] : List PV))) ≤ (70368744177664 : Nat))) ∧ (headP ref12_copied_C ref12_copied_lv [true, true, false, true, false] ref12_copied_b (ref12_copied_s0 l (w64 (i + (1 : Int))) (out ++ ([(RC.sl (RC.s EK.u8 (PV.slv EK.u8 (List.getD l (Int.toNat i) PV.nilp))))] : List PV))) (fnK ref12_copied_C ref12_copied_r ref12_copied_hs Q))))) (Q (ref12_copied_enc out))) := by kernel_rfl
theorem ref12_copied_k0 {r : List PV} {Q : CallOut → Prop} (hQ : Q (ref12_copied_enc r)) : ∀ k : Nat, (∀ (l : List PV) (i : Int) (out : List PV), ref12_copied_h0 k l i out = some r → headP ref12_copied_C ref12_copied_lv [true, true, false, true, false] ref12_copied_b (ref12_copied_s0 l i out) (fnK ref12_copied_C ref12_copied_r ref12_copied_hs Q))
  | 0 => fun _ _ _ h => no_ok h
  | k + 1 => fun l i out h => headP_step (Eq.mpr (ref12_copied_g0 l i out Q) (have h := (ref12_copied_h0_q k l i out).symm.trans h; cond_ok h (fun h => ite_ok h fun hc0 h => ite_ok h fun hc1 h => ite_ok h fun hc2 h => (ref12_copied_k0 hQ k) _ _ _ h) (fun h => ret_ok (Q := Q) (e := ref12_copied_enc) h hQ)))
theorem ref12_copied_e (l : List PV) (Q : CallOut → Prop) : evalFnP ref12_copied_C ref12_copied_lv ref12_copied_r ref12_copied_hs ref12_copied_b [.pv (.sp 1 l)] [] Q =
    (headP ref12_copied_C ref12_copied_lv [true, true, false, true, false] ref12_copied_b (ref12_copied_s0 l (0 : Int) ([] : List PV)) (fnK ref12_copied_C ref12_copied_r ref12_copied_hs Q)) := by kernel_rfl
theorem ref12_copied_w {k : Nat} (l : List PV) {r} {Q : CallOut → Prop} (h : ref12_copied k l = some r) (hQ : Q (ref12_copied_enc r)) : evalFnP ref12_copied_C ref12_copied_lv ref12_copied_r ref12_copied_hs ref12_copied_b [.pv (.sp 1 l)] [] Q :=
  Eq.mpr (ref12_copied_e l Q) (have h := (ref12_copied_q k l).symm.trans h; (ref12_copied_k0 hQ _) _ _ _ h)
def ref12_copied_c : Ans
  | [.pv (.sp 1 l)], [] => some (some (cellsB l = true), ref12_copied_enc (l))
  | _, _ => none
theorem ref12_copied_tok : TblOK Try.prog noG ref12_copied_T := .cons ⟨by kernel_rfl, ref00_Copy_ok⟩ (.nil)
theorem ref12_copied_ok : FnOK Try.prog noG 32 (unW ref12_copied_c) := by
  refine FnOK.ofC (T := ref12_copied_T) (nt := 20) (np := 0) (nf := true) (hs := ref12_copied_hs) (fn := Try.f32) (body := ref12_copied_b) ref12_copied_tok (by kernel_rfl) (by kernel_rfl) (by kernel_rfl) (by kernel_rfl) (c := ref12_copied_c) (lv := ref12_copied_lv) ?_
  intro xs mem p out h hp
  unfold ref12_copied_c at h
  split at h
  · cases h
    obtain ⟨k, hk⟩ := ref12_copied_spec _ hp
    exact ref12_copied_w _ hk rfl
  · cases h
end
end Go.Proofs.Ytpgpagmnhikpiaa.M

namespace Go.Proofs.Ytpgpagmnhikpiaa.M
open Go
noncomputable section
set_option maxRecDepth 100000
noncomputable def ref12_Push_T : Tbl := [(32, [false], ref12_copied_c), (33, [], ref00_Copy_c)]
noncomputable def ref12_Push_C : CfgW := mkC Try.prog noG ref12_Push_T 20 0 true
def ref12_Push_lv : Nat → List Nat := fun i => []
noncomputable abbrev ref12_Push_b : Code := Try.f23.body.getD .skip
noncomputable abbrev ref12_Push_r : List ResultVar := Try.f23.results.toList
def ref12_Push_hs : List Nat := []

def ref12_Push_enc (r : Int × List PV) : CallOut := ⟨.tup [.o 60000, .pv (.sc .i r.1)], [(60000, .row (.p 1 r.2) false)], false, []⟩
theorem ref12_Push_e (l : List PV) (b : List UInt8) (Q : CallOut → Prop) : evalFnP ref12_Push_C ref12_Push_lv ref12_Push_r ref12_Push_hs ref12_Push_b [.pv (.sp 1 l), .pv (.sl .u8 b)] [] Q =
    (condP (eqb (decide ((64 : Int) ≤ (((List.length l) : Nat) : Int))) false) (condP (bif false then true else (decide ((3000 : Int) < (((List.length b) : Nat) : Int)))) (Q (ref12_Push_enc ((3 : Int), ([] : List PV)))) (((cellsB l) = true) ∧ (((List.length b) ≤ (70368744177664 : Nat)) ∧ (((((List.length (l ++ ([(RC.sl (RC.s EK.u8 b))] : List PV))) * (24 : Nat)) ≤ (70368744177664 : Nat)) ∧ ((List.length (l ++ ([(RC.sl (RC.s EK.u8 b))] : List PV))) ≤ (70368744177664 : Nat))) ∧ (Q (ref12_Push_enc ((0 : Int), (l ++ ([(RC.sl (RC.s EK.u8 b))] : List PV))))))))) (Q (ref12_Push_enc ((3 : Int), ([] : List PV))))) := by kernel_rfl
theorem ref12_Push_w (l : List PV) (b : List UInt8) {r} {Q : CallOut → Prop} (h : ref12_Push l b = some r) (hQ : Q (ref12_Push_enc r)) : evalFnP ref12_Push_C ref12_Push_lv ref12_Push_r ref12_Push_hs ref12_Push_b [.pv (.sp 1 l), .pv (.sl .u8 b)] [] Q :=
  Eq.mpr (ref12_Push_e l b Q) (have h := (ref12_Push_q l b).symm.trans h; cond_ok h (fun h => cond_ok h (fun h => ret_ok (Q := Q) (e := ref12_Push_enc) h hQ) (fun h => ite_ok h fun hc0 h => ite_ok h fun hc1 h => ite_ok h fun hc2 h => ret_ok (Q := Q) (e := ref12_Push_enc) h hQ)) (fun h => ret_ok (Q := Q) (e := ref12_Push_enc) h hQ))
def ref12_Push_c : Ans
  | [.pv (.sp 1 l), .pv (.sl .u8 b)], [] => some (some (cellsB l = true), ref12_Push_enc (pushS l b))
  | _, _ => none
theorem ref12_Push_tok : TblOK Try.prog noG ref12_Push_T := .cons ⟨by kernel_rfl, ref12_copied_ok⟩ (.cons ⟨by kernel_rfl, ref00_Copy_ok⟩ (.nil))
theorem ref12_Push_ok : FnOK Try.prog noG 23 (unW ref12_Push_c) := by
  refine FnOK.ofC (T := ref12_Push_T) (nt := 20) (np := 0) (nf := true) (hs := ref12_Push_hs) (fn := Try.f23) (body := ref12_Push_b) ref12_Push_tok (by kernel_rfl) (by kernel_rfl) (by kernel_rfl) (by kernel_rfl) (c := ref12_Push_c) (lv := ref12_Push_lv) ?_
  intro xs mem p out h hp
  unfold ref12_Push_c at h
  split at h
  · cases h
    exact ref12_Push_w _ _ (ref12_Push_spec _ _ hp) rfl
  · cases h
end
end Go.Proofs.Ytpgpagmnhikpiaa.M

namespace Go.Proofs.Ytpgpagmnhikpiaa.M
open Go
noncomputable section
set_option maxRecDepth 100000
noncomputable def ref12_Pop_T : Tbl := [(32, [false], ref12_copied_c)]
noncomputable def ref12_Pop_C : CfgW := mkC Try.prog noG ref12_Pop_T 27 0 true
def ref12_Pop_lv : Nat → List Nat := fun i => []
noncomputable abbrev ref12_Pop_b : Code := Try.f25.body.getD .skip
noncomputable abbrev ref12_Pop_r : List ResultVar := Try.f25.results.toList
def ref12_Pop_hs : List Nat := []

def ref12_Pop_enc (r : Int × List PV × List PV) : CallOut := ⟨.tup [.o 60000, .o 60001, .pv (.sc .i r.1)], [(60000, .row (.p 1 r.2.1) false), (60001, .row (.p 1 r.2.2) false)], false, []⟩
theorem ref12_Pop_e (l : List PV) (n : Int) (Q : CallOut → Prop) : evalFnP ref12_Pop_C ref12_Pop_lv ref12_Pop_r ref12_Pop_hs ref12_Pop_b [.pv (.sp 1 l), .pv (.sc .i n)] [] Q =
    (condP (decide (n < (0 : Int))) (Q (ref12_Pop_enc ((2 : Int), ([] : List PV), ([] : List PV)))) (condP (decide ((((List.length l) : Nat) : Int) < n)) (Q (ref12_Pop_enc ((6 : Int), ([] : List PV), ([] : List PV)))) ((((0 : Int) ≤ (0 : Int)) ∧ (((0 : Int) ≤ (w64 ((((List.length l) : Nat) : Int) - n))) ∧ ((w64 ((((List.length l) : Nat) : Int) - n)) ≤ (((List.length l) : Nat) : Int)))) ∧ (((cellsB (List.take ((Int.toNat (w64 ((((List.length l) : Nat) : Int) - n))) - (Int.toNat (0 : Int))) (List.drop (Int.toNat (0 : Int)) l))) = true) ∧ ((((0 : Int) ≤ (w64 ((((List.length l) : Nat) : Int) - n))) ∧ (((w64 ((((List.length l) : Nat) : Int) - n)) ≤ (((List.length l) : Nat) : Int)) ∧ ((((List.length l) : Nat) : Int) ≤ (((List.length l) : Nat) : Int)))) ∧ (((cellsB (List.take ((Int.toNat (((List.length l) : Nat) : Int)) - (Int.toNat (w64 ((((List.length l) : Nat) : Int) - n)))) (List.drop (Int.toNat (w64 ((((List.length l) : Nat) : Int) - n))) l))) = true) ∧ (Q (ref12_Pop_enc ((0 : Int), (List.take ((Int.toNat (w64 ((((List.length l) : Nat) : Int) - n))) - (Int.toNat (0 : Int))) (List.drop (Int.toNat (0 : Int)) l)), (List.take ((Int.toNat (((List.length l) : Nat) : Int)) - (Int.toNat (w64 ((((List.length l) : Nat) : Int) - n)))) (List.drop (Int.toNat (w64 ((((List.length l) : Nat) : Int) - n))) l))))))))))) := by kernel_rfl
theorem ref12_Pop_w (l : List PV) (n : Int) {r} {Q : CallOut → Prop} (h : ref12_Pop l n = some r) (hQ : Q (ref12_Pop_enc r)) : evalFnP ref12_Pop_C ref12_Pop_lv ref12_Pop_r ref12_Pop_hs ref12_Pop_b [.pv (.sp 1 l), .pv (.sc .i n)] [] Q :=
  Eq.mpr (ref12_Pop_e l n Q) (have h := (ref12_Pop_q l n).symm.trans h; cond_ok h (fun h => ret_ok (Q := Q) (e := ref12_Pop_enc) h hQ) (fun h => cond_ok h (fun h => ret_ok (Q := Q) (e := ref12_Pop_enc) h hQ) (fun h => ite_ok h fun hc0 h => ite_ok h fun hc1 h => ite_ok h fun hc2 h => ite_ok h fun hc3 h => ret_ok (Q := Q) (e := ref12_Pop_enc) h hQ)))
def ref12_Pop_c : Ans
  | [.pv (.sp 1 l), .pv (.sc .i n)], [] => some (some (cellsB l = true ∧ I64 n), ref12_Pop_enc (popS l n))
  | _, _ => none
theorem ref12_Pop_tok : TblOK Try.prog noG ref12_Pop_T := .cons ⟨by kernel_rfl, ref12_copied_ok⟩ (.nil)
theorem ref12_Pop_ok : FnOK Try.prog noG 25 (unW ref12_Pop_c) := by
  refine FnOK.ofC (T := ref12_Pop_T) (nt := 27) (np := 0) (nf := true) (hs := ref12_Pop_hs) (fn := Try.f25) (body := ref12_Pop_b) ref12_Pop_tok (by kernel_rfl) (by kernel_rfl) (by kernel_rfl) (by kernel_rfl) (c := ref12_Pop_c) (lv := ref12_Pop_lv) ?_
  intro xs mem p out h hp
  unfold ref12_Pop_c at h
  split at h
  · cases h
    exact ref12_Pop_w _ _ (ref12_Pop_spec _ _ hp) rfl
  · cases h
end
end Go.Proofs.Ytpgpagmnhikpiaa.M

namespace Go.Proofs.Ytpgpagmnhikpiaa.M
open Go
noncomputable section
set_option maxRecDepth 100000
noncomputable def ref12_Same_T : Tbl := [(14, [], ref00_Same_c)]
noncomputable def ref12_Same_C : CfgW := mkC Try.prog noG ref12_Same_T 27 0 false
def ref12_Same_lv : Nat → List Nat := fun i => bif Nat.beq i 0 then [0, 1, 5] else []
noncomputable abbrev ref12_Same_b : Code := Try.f26.body.getD .skip
noncomputable abbrev ref12_Same_r : List ResultVar := Try.f26.results.toList
def ref12_Same_hs : List Nat := []

def ref12_Same_enc (r : Bool) : CallOut := ⟨.pv (.sc .b r), [], true, []⟩
def ref12_Same_s0 (a : List PV) (b : List PV) (i : Int) : St := ⟨[(0, .pv (.sp 1 a)), (1, .pv (.sp 1 b)), (5, .pv (.sc .i i))], []⟩
theorem ref12_Same_g0 (a : List PV) (b : List PV) (i : Int) (Q : CallOut → Prop) : headRound ref12_Same_C ref12_Same_lv [true, true, false, true, false] ref12_Same_b (ref12_Same_s0 a b i) (fnK ref12_Same_C ref12_Same_r ref12_Same_hs Q) =
    (condP (decide (i < (((List.length a) : Nat) : Int))) (((((0 : Int) ≤ i) ∧ (i < (((List.length a) : Nat) : Int))) ∧ ((TY.chk (TY.sl EK.u8) (List.getD a (Int.toNat i) PV.nilp)) = true)) ∧ (((((0 : Int) ≤ i) ∧ (i < (((List.length b) : Nat) : Int))) ∧ ((TY.chk (TY.sl EK.u8) (List.getD b (Int.toNat i) PV.nilp)) = true)) ∧ (((List.length (PV.slv EK.u8 (List.getD a (Int.toNat i) PV.nilp))) ≤ (1152921504606846976 : Nat)) ∧ (condP (!(decide ((PV.slv EK.u8 (List.getD a (Int.toNat i) PV.nilp)) = (PV.slv EK.u8 (List.getD b (Int.toNat i) PV.nilp))))) (Q (ref12_Same_enc false)) (headP ref12_Same_C ref12_Same_lv [true, true, false, true, false] ref12_Same_b (ref12_Same_s0 a b (w64 (i + (1 : Int)))) (fnK ref12_Same_C ref12_Same_r ref12_Same_hs Q)))))) (Q (ref12_Same_enc true))) := by kernel_rfl
theorem ref12_Same_k0 {r : Bool} {Q : CallOut → Prop} (hQ : Q (ref12_Same_enc r)) : ∀ k : Nat, (∀ (a : List PV) (b : List PV) (i : Int), ref12_Same_h0 k a b i = some r → headP ref12_Same_C ref12_Same_lv [true, true, false, true, false] ref12_Same_b (ref12_Same_s0 a b i) (fnK ref12_Same_C ref12_Same_r ref12_Same_hs Q))
  | 0 => fun _ _ _ h => no_ok h
  | k + 1 => fun a b i h => headP_step (Eq.mpr (ref12_Same_g0 a b i Q) (have h := (ref12_Same_h0_q k a b i).symm.trans h; cond_ok h (fun h => ite_ok h fun hc0 h => ite_ok h fun hc1 h => ite_ok h fun hc2 h => cond_ok h (fun h => ret_ok (Q := Q) (e := ref12_Same_enc) h hQ) (fun h => (ref12_Same_k0 hQ k) _ _ _ h)) (fun h => ret_ok (Q := Q) (e := ref12_Same_enc) h hQ)))
theorem ref12_Same_e (a : List PV) (b : List PV) (Q : CallOut → Prop) : evalFnP ref12_Same_C ref12_Same_lv ref12_Same_r ref12_Same_hs ref12_Same_b [.pv (.sp 1 a), .pv (.sp 1 b)] [] Q =
    (condP (!(decide ((((List.length a) : Nat) : Int) = (((List.length b) : Nat) : Int)))) (Q (ref12_Same_enc false)) (headP ref12_Same_C ref12_Same_lv [true, true, false, true, false] ref12_Same_b (ref12_Same_s0 a b (0 : Int)) (fnK ref12_Same_C ref12_Same_r ref12_Same_hs Q))) := by kernel_rfl
theorem ref12_Same_w {k : Nat} (a : List PV) (b : List PV) {r} {Q : CallOut → Prop} (h : ref12_Same k a b = some r) (hQ : Q (ref12_Same_enc r)) : evalFnP ref12_Same_C ref12_Same_lv ref12_Same_r ref12_Same_hs ref12_Same_b [.pv (.sp 1 a), .pv (.sp 1 b)] [] Q :=
  Eq.mpr (ref12_Same_e a b Q) (have h := (ref12_Same_q k a b).symm.trans h; cond_ok h (fun h => ret_ok (Q := Q) (e := ref12_Same_enc) h hQ) (fun h => (ref12_Same_k0 hQ _) _ _ _ h))
def ref12_Same_c : Ans
  | [.pv (.sp 1 a), .pv (.sp 1 b)], [] => some (some (cellsB a = true ∧ cellsB b = true), ref12_Same_enc (decide (a.map cellOf = b.map cellOf)))
  | _, _ => none
theorem ref12_Same_tok : TblOK Try.prog noG ref12_Same_T := .cons ⟨by kernel_rfl, ref00_Same_ok⟩ (.nil)
theorem ref12_Same_ok : FnOK Try.prog noG 26 (unW ref12_Same_c) := by
  refine FnOK.ofC (T := ref12_Same_T) (nt := 27) (np := 0) (nf := false) (hs := ref12_Same_hs) (fn := Try.f26) (body := ref12_Same_b) ref12_Same_tok (by kernel_rfl) (by kernel_rfl) (by kernel_rfl) (by kernel_rfl) (c := ref12_Same_c) (lv := ref12_Same_lv) ?_
  intro xs mem p out h hp
  unfold ref12_Same_c at h
  split at h
  · cases h
    obtain ⟨k, hk⟩ := ref12_Same_spec _ _ hp
    exact ref12_Same_w _ _ hk rfl
  · cases h
end
end Go.Proofs.Ytpgpagmnhikpiaa.M
