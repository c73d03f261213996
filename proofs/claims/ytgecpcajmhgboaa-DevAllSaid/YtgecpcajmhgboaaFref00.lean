/- Part of the proofs: what functions of the program do: plain functions, and the walks that show it. No condition. -/
import Derived.KernelRfl
import Derived.Test.YtgecpcajmhgboaaProg
import Derived.Test.YtgecpcajmhgboaaLe
import Derived.Test.YtgecpcajmhgboaaSwords
set_option linter.unusedVariables false
set_option linter.unusedSimpArgs false
set_option autoImplicit false
namespace Go.Proofs.Ytgecpcajmhgboaa.M
open Go
noncomputable section
/-- the loop 0 of moneyer/moneyerref00.Same -/
def ref00_Same_h0 : Nat → (List UInt8) → (List UInt8) → Int → Option (Bool)
  | 0, _, _, _ => none
  | k + 1, a, b, i => bif decide (i < (((List.length a) : Nat) : Int)) then (if ((0 : Int) ≤ i) ∧ (i < (((List.length a) : Nat) : Int)) then
        if ((0 : Int) ≤ i) ∧ (i < (((List.length b) : Nat) : Int)) then
          bif !(decide ((List.getD a (Int.toNat i) (0 : UInt8)) = (List.getD b (Int.toNat i) (0 : UInt8)))) then (some false)
            else (ref00_Same_h0 k a b (w64 (i + (1 : Int))))
        else none
      else none)
      else (some true)
theorem ref00_Same_h0_q (k : Nat) (a : List UInt8) (b : List UInt8) (i : Int) : ref00_Same_h0 (k + 1) a b i =
  (bif decide (i < (((List.length a) : Nat) : Int)) then (if ((0 : Int) ≤ i) ∧ (i < (((List.length a) : Nat) : Int)) then
        if ((0 : Int) ≤ i) ∧ (i < (((List.length b) : Nat) : Int)) then
          bif !(decide ((List.getD a (Int.toNat i) (0 : UInt8)) = (List.getD b (Int.toNat i) (0 : UInt8)))) then (some false)
            else (ref00_Same_h0 k a b (w64 (i + (1 : Int))))
        else none
      else none)
      else (some true)) := by kernel_rfl
/-- moneyer/moneyerref00.Same -/
def ref00_Same (k : Nat) (a : List UInt8) (b : List UInt8) : Option (Bool) :=
  bif !(decide ((((List.length a) : Nat) : Int) = (((List.length b) : Nat) : Int))) then (some false)
    else (ref00_Same_h0 k a b (0 : Int))
theorem ref00_Same_q (k : Nat) (a : List UInt8) (b : List UInt8) : ref00_Same k a b = (bif !(decide ((((List.length a) : Nat) : Int) = (((List.length b) : Nat) : Int))) then (some false)
    else (ref00_Same_h0 k a b (0 : Int))) := by kernel_rfl
theorem ref00_Same_spec (a b : List UInt8) (hp : a.length ≤ 1152921504606846976) : ∃ k, ref00_Same k a b = some (decide (a = b)) := by
  show Ev (fun k => ref00_Same k a b) _
  refine Ev.same (fun k => ref00_Same_q k a b) ?_
  by_cases hl : a.length = b.length
  · refine Ev.same (g := fun k => ref00_Same_h0 k a b 0) (fun k => by rw [hl]; simp) ?_
    refine same_loop (H := fun k i => ref00_Same_h0 k a b i) 0 hl (fun k => ?_) (fun k i hi e => ?_) (fun k i hi e => ?_)
    · rw [ref00_Same_h0_q, bif_neg (by omega)]
    · rw [ref00_Same_h0_q, bif_pos (by omega), if_pos (by omega), if_pos (by omega), Int.toNat_natCast, decide_eq_false e]; rfl
    · rw [ref00_Same_h0_q, bif_pos (by omega), if_pos (by omega), if_pos (by omega), Int.toNat_natCast, decide_eq_true e, w64_id (by omega) (by omega)]; rfl
  · refine ⟨0, ?_⟩
    simp only
    rw [decide_eq_false (fun h => hl (by omega)), decide_eq_false (fun h => hl (by rw [h]))]
    rfl

end
end Go.Proofs.Ytgecpcajmhgboaa.M

namespace Go.Proofs.Ytgecpcajmhgboaa.M
open Go
noncomputable section
set_option maxRecDepth 100000
set_option maxHeartbeats 0
noncomputable def ref00_Same_T : Tbl := []
noncomputable def ref00_Same_C : CfgW := mkC Try.prog noG ref00_Same_T 26 0 false
def ref00_Same_lv : Nat → List Nat := fun i => bif Nat.beq i 0 then [0, 1, 5] else []
noncomputable abbrev ref00_Same_b : Code := Try.f16.body.getD .skip
noncomputable abbrev ref00_Same_r : List ResultVar := Try.f16.results.toList
def ref00_Same_hs : List Nat := []

def ref00_Same_enc (r : Bool) : CallOut := ⟨.pv (.sc .b r), [], true, []⟩
def ref00_Same_s0 (a : List UInt8) (b : List UInt8) (i : Int) : St := ⟨[(0, .pv (.sl .u8 a)), (1, .pv (.sl .u8 b)), (5, .pv (.sc .i i))], []⟩
theorem ref00_Same_g0 (a : List UInt8) (b : List UInt8) (i : Int) (Q : CallOut → Prop) : headRound ref00_Same_C ref00_Same_lv [true, true, false, true, false] ref00_Same_b (ref00_Same_s0 a b i) (fnK ref00_Same_C ref00_Same_r ref00_Same_hs Q) =
    (condP (decide (i < (((List.length a) : Nat) : Int))) ((((0 : Int) ≤ i) ∧ (i < (((List.length a) : Nat) : Int))) ∧ ((((0 : Int) ≤ i) ∧ (i < (((List.length b) : Nat) : Int))) ∧ (condP (!(decide ((List.getD a (Int.toNat i) (0 : UInt8)) = (List.getD b (Int.toNat i) (0 : UInt8))))) (Q (ref00_Same_enc false)) (headP ref00_Same_C ref00_Same_lv [true, true, false, true, false] ref00_Same_b (ref00_Same_s0 a b (w64 (i + (1 : Int)))) (fnK ref00_Same_C ref00_Same_r ref00_Same_hs Q))))) (Q (ref00_Same_enc true))) := by kernel_rfl
theorem ref00_Same_k0 {r : Bool} {Q : CallOut → Prop} (hQ : Q (ref00_Same_enc r)) : ∀ k : Nat, (∀ (a : List UInt8) (b : List UInt8) (i : Int), ref00_Same_h0 k a b i = some r → headP ref00_Same_C ref00_Same_lv [true, true, false, true, false] ref00_Same_b (ref00_Same_s0 a b i) (fnK ref00_Same_C ref00_Same_r ref00_Same_hs Q))
  | 0 => fun _ _ _ h => no_ok h
  | k + 1 => fun a b i h => headP_step (Eq.mpr (ref00_Same_g0 a b i Q) (have h := (ref00_Same_h0_q k a b i).symm.trans h; cond_ok h (fun h => ite_ok h fun hc0 h => ite_ok h fun hc1 h => cond_ok h (fun h => ret_ok (Q := Q) (e := ref00_Same_enc) h hQ) (fun h => (ref00_Same_k0 hQ k) _ _ _ h)) (fun h => ret_ok (Q := Q) (e := ref00_Same_enc) h hQ)))
theorem ref00_Same_e (a : List UInt8) (b : List UInt8) (Q : CallOut → Prop) : evalFnP ref00_Same_C ref00_Same_lv ref00_Same_r ref00_Same_hs ref00_Same_b [.pv (.sl .u8 a), .pv (.sl .u8 b)] [] Q =
    (condP (!(decide ((((List.length a) : Nat) : Int) = (((List.length b) : Nat) : Int)))) (Q (ref00_Same_enc false)) (headP ref00_Same_C ref00_Same_lv [true, true, false, true, false] ref00_Same_b (ref00_Same_s0 a b (0 : Int)) (fnK ref00_Same_C ref00_Same_r ref00_Same_hs Q))) := by kernel_rfl
theorem ref00_Same_w {k : Nat} (a : List UInt8) (b : List UInt8) {r} {Q : CallOut → Prop} (h : ref00_Same k a b = some r) (hQ : Q (ref00_Same_enc r)) : evalFnP ref00_Same_C ref00_Same_lv ref00_Same_r ref00_Same_hs ref00_Same_b [.pv (.sl .u8 a), .pv (.sl .u8 b)] [] Q :=
  Eq.mpr (ref00_Same_e a b Q) (have h := (ref00_Same_q k a b).symm.trans h; cond_ok h (fun h => ret_ok (Q := Q) (e := ref00_Same_enc) h hQ) (fun h => (ref00_Same_k0 hQ _) _ _ _ h))
def ref00_Same_c : Ans
  | [.pv (.sl .u8 a), .pv (.sl .u8 b)], [] => some (some (a.length ≤ 1152921504606846976), ref00_Same_enc (decide (a = b)))
  | _, _ => none
theorem ref00_Same_tok : TblOK Try.prog noG ref00_Same_T := .nil
theorem ref00_Same_ok : FnOK Try.prog noG 16 (unW ref00_Same_c) := by
  refine FnOK.ofC (T := ref00_Same_T) (nt := 26) (np := 0) (mv := []) (nf := false) (hs := ref00_Same_hs) (fn := Try.f16) (body := ref00_Same_b) ref00_Same_tok (by kernel_rfl) (by kernel_rfl) (by kernel_rfl) (by kernel_rfl) (c := ref00_Same_c) (lv := ref00_Same_lv) ?_
  intro xs mem p out h hp
  unfold ref00_Same_c at h
  split at h
  · cases h
    obtain ⟨k, hk⟩ := ref00_Same_spec _ _ hp
    exact ref00_Same_w _ _ hk rfl
  · cases h
end
end Go.Proofs.Ytgecpcajmhgboaa.M
