/- Part of the proofs: what functions of the program do: plain functions, and the walks that show it. No condition. -/
import Derived.KernelRfl
import Derived.Test.YtpgpagmnhikpiaaProg
import Derived.Test.YtpgpagmnhikpiaaLd
import Derived.Test.YtpgpagmnhikpiaaFref00
import Derived.Test.YtpgpagmnhikpiaaSwords
import Derived.Test.YtpgpagmnhikpiaaScellS
set_option linter.unusedVariables false
set_option linter.unusedSimpArgs false
set_option autoImplicit false
namespace Go.Proofs.Ytpgpagmnhikpiaa.M
open Go
noncomputable section
/-- the loop 0 of moneyer/moneyerref12.Same -/
def ref12_Same_h0 : Nat → (List PV) → (List PV) → Int → Option (Bool)
  | 0, _, _, _ => none
  | k + 1, a, b, i => bif decide (i < (((List.length a) : Nat) : Int)) then (if (((0 : Int) ≤ i) ∧ (i < (((List.length a) : Nat) : Int))) ∧ ((TY.chk (TY.sl EK.u8) (List.getD a (Int.toNat i) PV.nilp)) = true) then
        if (((0 : Int) ≤ i) ∧ (i < (((List.length b) : Nat) : Int))) ∧ ((TY.chk (TY.sl EK.u8) (List.getD b (Int.toNat i) PV.nilp)) = true) then
          if (List.length (PV.slv EK.u8 (List.getD a (Int.toNat i) PV.nilp))) ≤ (1152921504606846976 : Nat) then
            bif !(decide ((PV.slv EK.u8 (List.getD a (Int.toNat i) PV.nilp)) = (PV.slv EK.u8 (List.getD b (Int.toNat i) PV.nilp)))) then (some false)
              else (ref12_Same_h0 k a b (w64 (i + (1 : Int))))
          else none
        else none
      else none)
      else (some true)
theorem ref12_Same_h0_q (k : Nat) (a : List PV) (b : List PV) (i : Int) : ref12_Same_h0 (k + 1) a b i =
  (bif decide (i < (((List.length a) : Nat) : Int)) then (if (((0 : Int) ≤ i) ∧ (i < (((List.length a) : Nat) : Int))) ∧ ((TY.chk (TY.sl EK.u8) (List.getD a (Int.toNat i) PV.nilp)) = true) then
        if (((0 : Int) ≤ i) ∧ (i < (((List.length b) : Nat) : Int))) ∧ ((TY.chk (TY.sl EK.u8) (List.getD b (Int.toNat i) PV.nilp)) = true) then
          if (List.length (PV.slv EK.u8 (List.getD a (Int.toNat i) PV.nilp))) ≤ (1152921504606846976 : Nat) then
            bif !(decide ((PV.slv EK.u8 (List.getD a (Int.toNat i) PV.nilp)) = (PV.slv EK.u8 (List.getD b (Int.toNat i) PV.nilp)))) then (some false)
              else (ref12_Same_h0 k a b (w64 (i + (1 : Int))))
          else none
        else none
      else none)
      else (some true)) := by kernel_rfl
/-- moneyer/moneyerref12.Same -/
def ref12_Same (k : Nat) (a : List PV) (b : List PV) : Option (Bool) :=
  bif !(decide ((((List.length a) : Nat) : Int) = (((List.length b) : Nat) : Int))) then (some false)
    else (ref12_Same_h0 k a b (0 : Int))
theorem ref12_Same_q (k : Nat) (a : List PV) (b : List PV) : ref12_Same k a b = (bif !(decide ((((List.length a) : Nat) : Int) = (((List.length b) : Nat) : Int))) then (some false)
    else (ref12_Same_h0 k a b (0 : Int))) := by kernel_rfl
theorem ref12_Same_spec (a b : List PV) (hp : cellsB a = true ∧ cellsB b = true) : ∃ k, ref12_Same k a b = some (decide (a.map cellOf = b.map cellOf)) := by
  obtain ⟨ha, hb⟩ := hp
  have la := cellsB_len ha
  have lb := cellsB_len hb
  show Ev (fun k => ref12_Same k a b) _
  refine Ev.same (fun k => ref12_Same_q k a b) ?_
  by_cases hl : a.length = b.length
  · refine Ev.same (g := fun k => ref12_Same_h0 k a b 0) (fun k => by rw [hl]; simp) ?_
    have st : ∀ k (i : Nat), i < (a.map cellOf).length → ref12_Same_h0 (k + 1) a b (i : Int) = bif !(decide ((a.map cellOf).getD i [] = (b.map cellOf).getD i [])) then some false else ref12_Same_h0 k a b ((i : Int) + 1) := by
      intro k i hi
      rw [List.length_map] at hi
      obtain ⟨ys, e1, h1⟩ := cellsB_at ha hi
      obtain ⟨zs, e2, h2⟩ := cellsB_at hb (i := i) (by omega)
      rw [ref12_Same_h0_q, bif_pos (by omega), Int.toNat_natCast, map_getD hi, map_getD (by omega), e1, e2, if_pos ⟨by omega, rfl⟩, if_pos ⟨by omega, rfl⟩, w64_id (by omega) (by omega)]
      exact if_pos (show ys.length ≤ 1152921504606846976 by omega)
    refine same_loop (H := fun k i => ref12_Same_h0 k a b i) [] (by simpa using hl) (fun k => ?_) (fun k i hi e => ?_) (fun k i hi e => ?_)
    · rw [List.length_map, ref12_Same_h0_q, bif_neg (by omega)]
    · rw [st k i hi, decide_eq_false e]; rfl
    · rw [st k i hi, decide_eq_true e]; rfl
  · refine ⟨0, ?_⟩
    simp only
    rw [decide_eq_false (fun h => hl (by omega)), decide_eq_false (fun h => hl (by simpa using congrArg List.length h))]
    rfl

end
end Go.Proofs.Ytpgpagmnhikpiaa.M

namespace Go.Proofs.Ytpgpagmnhikpiaa.M
open Go
noncomputable section
set_option maxRecDepth 100000
noncomputable def ref12_Same_T : Tbl := [(14, [], ref00_Same_c)]
noncomputable def ref12_Same_C : CfgW := mkC Try.prog noG ref12_Same_T 27 0 false
def ref12_Same_lv : Nat → List Nat := fun i => bif Nat.beq i 0 then [0, 1, 5] else []
noncomputable abbrev ref12_Same_b : Code := Try.f26.body.getD .skip
noncomputable abbrev ref12_Same_r : List ResultVar := Try.f26.results.toList
def ref12_Same_hs : List Nat := []

def ref12_Same_enc (r : Bool) : CallOut := ⟨.pv (.sc .b r), [], true, []⟩
def ref12_Same_s0 (a : List PV) (b : List PV) (i : Int) : St := ⟨[(0, .pv (.sp 1 a)), (1, .pv (.sp 1 b)), (5, .pv (.sc .i i))], []⟩
theorem ref12_Same_g0 (a : List PV) (b : List PV) (i : Int) (Q : CallOut → Prop) : headRound ref12_Same_C ref12_Same_lv [true, true, false, true, false] ref12_Same_b (ref12_Same_s0 a b i) (fnK ref12_Same_C ref12_Same_r ref12_Same_hs Q) =
    (condP (decide (i < (((List.length a) : Nat) : Int))) (((((0 : Int) ≤ i) ∧ (i < (((List.length a) : Nat) : Int))) ∧ ((TY.chk (TY.sl EK.u8) (List.getD a (Int.toNat i) PV.nilp)) = true)) ∧ (((((0 : Int) ≤ i) ∧ (i < (((List.length b) : Nat) : Int))) ∧ ((TY.chk (TY.sl EK.u8) (List.getD b (Int.toNat i) PV.nilp)) = true)) ∧ (((List.length (PV.slv EK.u8 (List.getD a (Int.toNat i) PV.nilp))) ≤ (1152921504606846976 : Nat)) ∧ (condP (!(decide ((PV.slv EK.u8 (List.getD a (Int.toNat i) PV.nilp)) = (PV.slv EK.u8 (List.getD b (Int.toNat i) PV.nilp))))) (Q (ref12_Same_enc false)) (headP ref12_Same_C ref12_Same_lv [true, true, false, true, false] ref12_Same_b (ref12_Same_s0 a b (w64 (i + (1 : Int)))) (fnK ref12_Same_C ref12_Same_r ref12_Same_hs Q)))))) (Q (ref12_Same_enc true))) := by kernel_rfl
theorem ref12_Same_k0 {r : Bool} {Q : CallOut → Prop} (hQ : Q (ref12_Same_enc r)) : ∀ k : Nat, (∀ (a : List PV) (b : List PV) (i : Int), ref12_Same_h0 k a b i = some r → headP ref12_Same_C ref12_Same_lv [true, true, false, true, false] ref12_Same_b (ref12_Same_s0 a b i) (fnK ref12_Same_C ref12_Same_r ref12_Same_hs Q))
  | 0 => fun _ _ _ h => no_ok h
  | k + 1 => fun a b i h => headP_step (Eq.mpr (ref12_Same_g0 a b i Q) (have h := (ref12_Same_h0_q k a b i).symm.trans h; cond_ok h (fun h => ite_ok h fun hc0 h => ite_ok h fun hc1 h => ite_ok h fun hc2 h => cond_ok h (fun h => ret_ok (Q := Q) (e := ref12_Same_enc) h hQ) (fun h => (ref12_Same_k0 hQ k) _ _ _ h)) (fun h => ret_ok (Q := Q) (e := ref12_Same_enc) h hQ)))
theorem ref12_Same_e (a : List PV) (b : List PV) (Q : CallOut → Prop) : evalFnP ref12_Same_C ref12_Same_lv ref12_Same_r ref12_Same_hs ref12_Same_b [.pv (.sp 1 a), .pv (.sp 1 b)] [] Q =
    (condP (!(decide ((((List.length a) : Nat) : Int) = (((List.length b) : Nat) : Int)))) (Q (ref12_Same_enc false)) (headP ref12_Same_C ref12_Same_lv [true, true, false, true, false] ref12_Same_b (ref12_Same_s0 a b (0 : Int)) (fnK ref12_Same_C ref12_Same_r ref12_Same_hs Q))) := by kernel_rfl
theorem ref12_Same_w {k : Nat} (a : List PV) (b : List PV) {r} {Q : CallOut → Prop} (h : ref12_Same k a b = some r) (hQ : Q (ref12_Same_enc r)) : evalFnP ref12_Same_C ref12_Same_lv ref12_Same_r ref12_Same_hs ref12_Same_b [.pv (.sp 1 a), .pv (.sp 1 b)] [] Q :=
  Eq.mpr (ref12_Same_e a b Q) (have h := (ref12_Same_q k a b).symm.trans h; cond_ok h (fun h => ret_ok (Q := Q) (e := ref12_Same_enc) h hQ) (fun h => (ref12_Same_k0 hQ _) _ _ _ h))
def ref12_Same_c : Ans
  | [.pv (.sp 1 a), .pv (.sp 1 b)], [] => some (some (cellsB a = true ∧ cellsB b = true), ref12_Same_enc (decide (a.map cellOf = b.map cellOf)))
  | _, _ => none
theorem ref12_Same_tok : TblOK Try.prog noG ref12_Same_T := .cons ⟨by kernel_rfl, ref00_Same_ok⟩ (.nil)
theorem ref12_Same_ok : FnOK Try.prog noG 26 (unW ref12_Same_c) := by
  refine FnOK.ofC (T := ref12_Same_T) (nt := 27) (np := 0) (nf := false) (hs := ref12_Same_hs) (fn := Try.f26) (body := ref12_Same_b) ref12_Same_tok (by kernel_rfl) (by kernel_rfl) (by kernel_rfl) (by kernel_rfl) (c := ref12_Same_c) (lv := ref12_Same_lv) ?_
  intro xs mem p out h hp
  unfold ref12_Same_c at h
  split at h
  · cases h
    obtain ⟨k, hk⟩ := ref12_Same_spec _ _ hp
    exact ref12_Same_w _ _ hk rfl
  · cases h
end
end Go.Proofs.Ytpgpagmnhikpiaa.M
