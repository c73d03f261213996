/- Part of the proofs: what functions of the program do: plain functions, and the walks that show it. No condition. -/
import Derived.KernelRfl
import Derived.Test.YtpgpagmnhikpiaaProg
import Derived.Test.YtpgpagmnhikpiaaLd
import Derived.Test.YtpgpagmnhikpiaaSwords
import Derived.Test.YtpgpagmnhikpiaaScellS
set_option linter.unusedVariables false
set_option linter.unusedSimpArgs false
set_option autoImplicit false
namespace Go.Proofs.Ytpgpagmnhikpiaa.M
open Go
noncomputable section
/-- moneyer/moneyerref12.Two -/
def ref12_Two (op : UInt8) (a : Int) (b : Int) : Option (Int × Int) :=
  bif decide (op = (13 : UInt8)) then (bif eqb (decide ((0 : Int) < b)) true then (bif eqb (bif true then (decide ((w64 ((9223372036854775807 : Int) - b)) < a)) else false) false then (bif eqb (decide (b < (0 : Int))) true then (bif bif false then true else (bif true then (decide (a < (w64 ((-(9223372036854775808 : Int)) - b)))) else false) then (some ((0 : Int), (3 : Int)))
            else (some ((w64 (a + b)), (0 : Int))))
          else (some ((w64 (a + b)), (0 : Int))))
        else (some ((0 : Int), (3 : Int))))
      else (bif eqb (decide (b < (0 : Int))) true then (bif bif false then true else (bif true then (decide (a < (w64 ((-(9223372036854775808 : Int)) - b)))) else false) then (some ((0 : Int), (3 : Int)))
          else (some ((w64 (a + b)), (0 : Int))))
        else (some ((w64 (a + b)), (0 : Int)))))
    else (bif decide (op = (14 : UInt8)) then (bif eqb (decide (b < (0 : Int))) true then (bif eqb (bif true then (decide ((w64 ((9223372036854775807 : Int) + b)) < a)) else false) false then (bif eqb (decide ((0 : Int) < b)) true then (bif bif false then true else (bif true then (decide (a < (w64 ((-(9223372036854775808 : Int)) + b)))) else false) then (some ((0 : Int), (3 : Int)))
              else (some ((w64 (a - b)), (0 : Int))))
            else (some ((w64 (a - b)), (0 : Int))))
          else (some ((0 : Int), (3 : Int))))
        else (bif eqb (decide ((0 : Int) < b)) true then (bif bif false then true else (bif true then (decide (a < (w64 ((-(9223372036854775808 : Int)) + b)))) else false) then (some ((0 : Int), (3 : Int)))
            else (some ((w64 (a - b)), (0 : Int))))
          else (some ((w64 (a - b)), (0 : Int)))))
      else (bif decide (op = (15 : UInt8)) then (bif eqb (decide (a = (0 : Int))) false then (if a ≠ (0 : Int) then
            bif eqb (decide ((w64 (Int.tdiv (w64 (a * b)) a)) = b)) true then (bif eqb (decide (a = (-(1 : Int)))) true then (bif bif false then true else (bif true then (!(bif true then (decide (b = (-(9223372036854775808 : Int)))) else false)) else false) then (some ((w64 (a * b)), (0 : Int)))
                  else (some ((0 : Int), (3 : Int))))
                else (some ((w64 (a * b)), (0 : Int))))
              else (some ((0 : Int), (3 : Int)))
          else none)
          else (some ((w64 (a * b)), (0 : Int))))
        else (bif decide (op = (16 : UInt8)) then (bif decide (a < b) then (some ((1 : Int), (0 : Int)))
            else (some ((0 : Int), (0 : Int))))
          else (some ((0 : Int), (2 : Int))))))
theorem ref12_Two_q (op : UInt8) (a : Int) (b : Int) : ref12_Two op a b = (bif decide (op = (13 : UInt8)) then (bif eqb (decide ((0 : Int) < b)) true then (bif eqb (bif true then (decide ((w64 ((9223372036854775807 : Int) - b)) < a)) else false) false then (bif eqb (decide (b < (0 : Int))) true then (bif bif false then true else (bif true then (decide (a < (w64 ((-(9223372036854775808 : Int)) - b)))) else false) then (some ((0 : Int), (3 : Int)))
            else (some ((w64 (a + b)), (0 : Int))))
          else (some ((w64 (a + b)), (0 : Int))))
        else (some ((0 : Int), (3 : Int))))
      else (bif eqb (decide (b < (0 : Int))) true then (bif bif false then true else (bif true then (decide (a < (w64 ((-(9223372036854775808 : Int)) - b)))) else false) then (some ((0 : Int), (3 : Int)))
          else (some ((w64 (a + b)), (0 : Int))))
        else (some ((w64 (a + b)), (0 : Int)))))
    else (bif decide (op = (14 : UInt8)) then (bif eqb (decide (b < (0 : Int))) true then (bif eqb (bif true then (decide ((w64 ((9223372036854775807 : Int) + b)) < a)) else false) false then (bif eqb (decide ((0 : Int) < b)) true then (bif bif false then true else (bif true then (decide (a < (w64 ((-(9223372036854775808 : Int)) + b)))) else false) then (some ((0 : Int), (3 : Int)))
              else (some ((w64 (a - b)), (0 : Int))))
            else (some ((w64 (a - b)), (0 : Int))))
          else (some ((0 : Int), (3 : Int))))
        else (bif eqb (decide ((0 : Int) < b)) true then (bif bif false then true else (bif true then (decide (a < (w64 ((-(9223372036854775808 : Int)) + b)))) else false) then (some ((0 : Int), (3 : Int)))
            else (some ((w64 (a - b)), (0 : Int))))
          else (some ((w64 (a - b)), (0 : Int)))))
      else (bif decide (op = (15 : UInt8)) then (bif eqb (decide (a = (0 : Int))) false then (if a ≠ (0 : Int) then
            bif eqb (decide ((w64 (Int.tdiv (w64 (a * b)) a)) = b)) true then (bif eqb (decide (a = (-(1 : Int)))) true then (bif bif false then true else (bif true then (!(bif true then (decide (b = (-(9223372036854775808 : Int)))) else false)) else false) then (some ((w64 (a * b)), (0 : Int)))
                  else (some ((0 : Int), (3 : Int))))
                else (some ((w64 (a * b)), (0 : Int))))
              else (some ((0 : Int), (3 : Int)))
          else none)
          else (some ((w64 (a * b)), (0 : Int))))
        else (bif decide (op = (16 : UInt8)) then (bif decide (a < b) then (some ((1 : Int), (0 : Int)))
            else (some ((0 : Int), (0 : Int))))
          else (some ((0 : Int), (2 : Int))))))) := by kernel_rfl
theorem ref12_mul {a b : Int} (ha : I64 a) (hb : I64 b) (h0 : a ≠ 0) : (w64 (Int.tdiv (w64 (a * b)) a) = b ∧ ¬ (a = -1 ∧ b = -9223372036854775808)) ↔ I64 (a * b) := by
  obtain ⟨a1, a2⟩ := ha
  obtain ⟨b1, b2⟩ := hb
  constructor
  · rintro ⟨h, hn⟩
    have hq := Int.mul_tdiv_add_tmod (w64 (a * b)) a
    have hr : (Int.tmod (w64 (a * b)) a).natAbs < a.natAbs := by
      rw [Int.natAbs_tmod]; exact Nat.mod_lt _ (by omega)
    have hc : -9223372036854775808 ≤ w64 (a * b) ∧ w64 (a * b) < 9223372036854775808 ∧ ∃ k : Int, w64 (a * b) = a * b + 18446744073709551616 * k := by
      rw [w64_eq]
      generalize a * b = m
      split
      · exact ⟨by omega, by omega, -(m / 18446744073709551616) - 1, by omega⟩
      · exact ⟨by omega, by omega, -(m / 18446744073709551616), by omega⟩
    have hqa := Int.natAbs_tdiv_le_natAbs (w64 (a * b)) a
    obtain ⟨c1, c2, k, hk⟩ := hc
    by_cases e : Int.tdiv (w64 (a * b)) a = b
    · rw [e] at hq
      generalize w64 (a * b) = c at *
      generalize Int.tmod c a = r at *
      generalize a * b = m at *
      have : k = 0 := by omega
      subst this
      exact ⟨by omega, by omega⟩
    · exfalso
      have key : ∀ q c : Int, -9223372036854775808 ≤ c → c < 9223372036854775808 → q.natAbs ≤ c.natAbs → w64 q = b → q ≠ b → q = 9223372036854775808 ∧ b = -9223372036854775808 ∧ c = -9223372036854775808 := by
        intro q c g1 g2 g3 g4 g5
        rw [w64_eq] at g4
        split at g4 <;> exact ⟨by omega, by omega, by omega⟩
      obtain ⟨k1, k2, k3⟩ := key _ _ c1 c2 hqa h e
      rw [k1, k3] at hq
      rw [k3] at hr
      have : a = -1 := by
        generalize Int.tmod (-9223372036854775808) a = r at *
        omega
      exact hn ⟨this, k2⟩
  · intro h
    rw [w64_id h.1 h.2, Int.mul_tdiv_cancel_left b h0, w64_id b1 b2]
    refine ⟨rfl, ?_⟩
    rintro ⟨rfl, rfl⟩
    exact absurd h.2 (by decide)
theorem ref12_Two_spec (op : UInt8) (a b : Int) (hp : I64 a ∧ I64 b) : ref12_Two op a b = some (twoS op a b) := by
  have hab := hp
  obtain ⟨⟨a1, a2⟩, b1, b2⟩ := hp
  unfold twoS
  rw [ref12_Two_q]
  simp only [eqb_t, eqb_f, cond_true, cond_false]
  by_cases h1 : op = 13
  · rw [bif_pos h1, if_pos h1]
    rcases w64_three (a + b) (by omega) (by omega) with ⟨⟨g1, g2⟩, e1, e2⟩ | ⟨g, e1, e2⟩ | ⟨g, e1, e2⟩
    all_goals
      rw [e1, e2]
      by_cases p1 : 0 < b
      · rw [w64_id (x := 9223372036854775807 - b) (by omega) (by omega)]
        have p2 : ¬ b < 0 := by omega
        simp only [p1, p2, decide_true, decide_false, cond_true, cond_false, cond_dec, Bool.not_eq_true', decide_eq_false_iff_not, cond_if, decide_eq_true_eq]
        by_cases p3 : 9223372036854775807 - b < a
        · first | (exfalso; omega) | simp [p3]
        · first | (exfalso; omega) | simp [p3]
      · by_cases p2 : b < 0
        · rw [w64_id (x := -9223372036854775808 - b) (by omega) (by omega)]
          simp only [p1, p2, decide_true, decide_false, cond_true, cond_false, cond_dec, cond_if, decide_eq_true_eq]
          by_cases p3 : a < -9223372036854775808 - b
          · first | (exfalso; omega) | simp [p3]
          · first | (exfalso; omega) | simp [p3]
        · first | (exfalso; omega) | simp [p1, p2]
  · rw [bif_neg h1, if_neg h1]
    by_cases h2 : op = 14
    · rw [bif_pos h2, if_pos h2]
      rcases w64_three (a - b) (by omega) (by omega) with ⟨⟨g1, g2⟩, e1, e2⟩ | ⟨g, e1, e2⟩ | ⟨g, e1, e2⟩
      all_goals
        rw [e1, e2]
        by_cases p2 : b < 0
        · rw [w64_id (x := 9223372036854775807 + b) (by omega) (by omega)]
          have p1 : ¬ 0 < b := by omega
          simp only [p1, p2, decide_true, decide_false, cond_true, cond_false, cond_dec, Bool.not_eq_true', decide_eq_false_iff_not, cond_if, decide_eq_true_eq]
          by_cases p3 : 9223372036854775807 + b < a
          · first | (exfalso; omega) | simp [p3]
          · first | (exfalso; omega) | simp [p3]
        · by_cases p1 : 0 < b
          · rw [w64_id (x := -9223372036854775808 + b) (by omega) (by omega)]
            simp only [p1, p2, decide_true, decide_false, cond_true, cond_false, cond_dec, cond_if, decide_eq_true_eq]
            by_cases p3 : a < -9223372036854775808 + b
            · first | (exfalso; omega) | simp [p3]
            · first | (exfalso; omega) | simp [p3]
          · first | (exfalso; omega) | simp [p1, p2]
    · rw [bif_neg h2, if_neg h2]
      by_cases h3 : op = 15
      · rw [bif_pos h3, if_pos h3]
        by_cases h0 : a = 0
        · subst h0
          simp [ckI, w64_eq]
        · have hm := ref12_mul hab.1 hab.2 h0
          have hck : ckI (a * b) = if I64 (a * b) then (a * b, 0) else (0, 3) := rfl
          rw [hck]
          simp only [h0, decide_false, cond_false, Bool.not_false, cond_true, ne_eq, not_false_eq_true, if_true]
          by_cases hf : I64 (a * b)
          · have h := hm.2 hf
            rw [if_pos hf, decide_eq_true h.1, cond_true]
            by_cases p1 : a = -1
            · have p2 : ¬ b = -9223372036854775808 := fun q => h.2 ⟨p1, q⟩
              simp [p1, p2]
              rw [p1] at hf
              exact w64_id (by have := hf.1; omega) (by have := hf.2; omega)
            · simp [p1]
              exact w64_id hf.1 hf.2
          · rw [if_neg hf]
            by_cases p0 : w64 (Int.tdiv (w64 (a * b)) a) = b
            · have p3 : a = -1 ∧ b = -9223372036854775808 := by
                by_cases q : a = -1 ∧ b = -9223372036854775808
                · exact q
                · exact absurd (hm.1 ⟨p0, q⟩) hf
              rw [decide_eq_true p0]
              simp [p3.1, p3.2]
            · rw [decide_eq_false p0]; rfl
      · rw [bif_neg h3, if_neg h3]
        by_cases h4 : op = 16
        · rw [bif_pos h4, if_pos h4, cond_dec]
          split <;> rfl
        · rw [bif_neg h4, if_neg h4]

end
end Go.Proofs.Ytpgpagmnhikpiaa.M

namespace Go.Proofs.Ytpgpagmnhikpiaa.M
open Go
noncomputable section
set_option maxRecDepth 100000
noncomputable def ref12_Two_T : Tbl := []
noncomputable def ref12_Two_C : CfgW := mkC Try.prog noG ref12_Two_T 85 0 false
def ref12_Two_lv : Nat → List Nat := fun i => []
noncomputable abbrev ref12_Two_b : Code := Try.f10.body.getD .skip
noncomputable abbrev ref12_Two_r : List ResultVar := Try.f10.results.toList
def ref12_Two_hs : List Nat := []

def ref12_Two_enc (r : Int × Int) : CallOut := ⟨.tup [.pv (.sc .i r.1), .pv (.sc .i r.2)], [], true, []⟩
theorem ref12_Two_e (op : UInt8) (a : Int) (b : Int) (Q : CallOut → Prop) : evalFnP ref12_Two_C ref12_Two_lv ref12_Two_r ref12_Two_hs ref12_Two_b [.pv (.sc .u8 op), .pv (.sc .i a), .pv (.sc .i b)] [] Q =
    (condP (decide (op = (13 : UInt8))) (condP (eqb (decide ((0 : Int) < b)) true) (condP (eqb (bif true then (decide ((w64 ((9223372036854775807 : Int) - b)) < a)) else false) false) (condP (eqb (decide (b < (0 : Int))) true) (condP (bif false then true else (bif true then (decide (a < (w64 ((-(9223372036854775808 : Int)) - b)))) else false)) (Q (ref12_Two_enc ((0 : Int), (3 : Int)))) (Q (ref12_Two_enc ((w64 (a + b)), (0 : Int))))) (Q (ref12_Two_enc ((w64 (a + b)), (0 : Int))))) (Q (ref12_Two_enc ((0 : Int), (3 : Int))))) (condP (eqb (decide (b < (0 : Int))) true) (condP (bif false then true else (bif true then (decide (a < (w64 ((-(9223372036854775808 : Int)) - b)))) else false)) (Q (ref12_Two_enc ((0 : Int), (3 : Int)))) (Q (ref12_Two_enc ((w64 (a + b)), (0 : Int))))) (Q (ref12_Two_enc ((w64 (a + b)), (0 : Int)))))) (condP (decide (op = (14 : UInt8))) (condP (eqb (decide (b < (0 : Int))) true) (condP (eqb (bif true then (decide ((w64 ((9223372036854775807 : Int) + b)) < a)) else false) false) (condP (eqb (decide ((0 : Int) < b)) true) (condP (bif false then true else (bif true then (decide (a < (w64 ((-(9223372036854775808 : Int)) + b)))) else false)) (Q (ref12_Two_enc ((0 : Int), (3 : Int)))) (Q (ref12_Two_enc ((w64 (a - b)), (0 : Int))))) (Q (ref12_Two_enc ((w64 (a - b)), (0 : Int))))) (Q (ref12_Two_enc ((0 : Int), (3 : Int))))) (condP (eqb (decide ((0 : Int) < b)) true) (condP (bif false then true else (bif true then (decide (a < (w64 ((-(9223372036854775808 : Int)) + b)))) else false)) (Q (ref12_Two_enc ((0 : Int), (3 : Int)))) (Q (ref12_Two_enc ((w64 (a - b)), (0 : Int))))) (Q (ref12_Two_enc ((w64 (a - b)), (0 : Int)))))) (condP (decide (op = (15 : UInt8))) (condP (eqb (decide (a = (0 : Int))) false) ((a ≠ (0 : Int)) ∧ (condP (eqb (decide ((w64 (Int.tdiv (w64 (a * b)) a)) = b)) true) (condP (eqb (decide (a = (-(1 : Int)))) true) (condP (bif false then true else (bif true then (!(bif true then (decide (b = (-(9223372036854775808 : Int)))) else false)) else false)) (Q (ref12_Two_enc ((w64 (a * b)), (0 : Int)))) (Q (ref12_Two_enc ((0 : Int), (3 : Int))))) (Q (ref12_Two_enc ((w64 (a * b)), (0 : Int))))) (Q (ref12_Two_enc ((0 : Int), (3 : Int)))))) (Q (ref12_Two_enc ((w64 (a * b)), (0 : Int))))) (condP (decide (op = (16 : UInt8))) (condP (decide (a < b)) (Q (ref12_Two_enc ((1 : Int), (0 : Int)))) (Q (ref12_Two_enc ((0 : Int), (0 : Int))))) (Q (ref12_Two_enc ((0 : Int), (2 : Int)))))))) := by kernel_rfl
theorem ref12_Two_w (op : UInt8) (a : Int) (b : Int) {r} {Q : CallOut → Prop} (h : ref12_Two op a b = some r) (hQ : Q (ref12_Two_enc r)) : evalFnP ref12_Two_C ref12_Two_lv ref12_Two_r ref12_Two_hs ref12_Two_b [.pv (.sc .u8 op), .pv (.sc .i a), .pv (.sc .i b)] [] Q :=
  Eq.mpr (ref12_Two_e op a b Q) (have h := (ref12_Two_q op a b).symm.trans h; cond_ok h (fun h => cond_ok h (fun h => cond_ok h (fun h => cond_ok h (fun h => cond_ok h (fun h => ret_ok (Q := Q) (e := ref12_Two_enc) h hQ) (fun h => ret_ok (Q := Q) (e := ref12_Two_enc) h hQ)) (fun h => ret_ok (Q := Q) (e := ref12_Two_enc) h hQ)) (fun h => ret_ok (Q := Q) (e := ref12_Two_enc) h hQ)) (fun h => cond_ok h (fun h => cond_ok h (fun h => ret_ok (Q := Q) (e := ref12_Two_enc) h hQ) (fun h => ret_ok (Q := Q) (e := ref12_Two_enc) h hQ)) (fun h => ret_ok (Q := Q) (e := ref12_Two_enc) h hQ))) (fun h => cond_ok h (fun h => cond_ok h (fun h => cond_ok h (fun h => cond_ok h (fun h => cond_ok h (fun h => ret_ok (Q := Q) (e := ref12_Two_enc) h hQ) (fun h => ret_ok (Q := Q) (e := ref12_Two_enc) h hQ)) (fun h => ret_ok (Q := Q) (e := ref12_Two_enc) h hQ)) (fun h => ret_ok (Q := Q) (e := ref12_Two_enc) h hQ)) (fun h => cond_ok h (fun h => cond_ok h (fun h => ret_ok (Q := Q) (e := ref12_Two_enc) h hQ) (fun h => ret_ok (Q := Q) (e := ref12_Two_enc) h hQ)) (fun h => ret_ok (Q := Q) (e := ref12_Two_enc) h hQ))) (fun h => cond_ok h (fun h => cond_ok h (fun h => ite_ok h fun hc0 h => cond_ok h (fun h => cond_ok h (fun h => cond_ok h (fun h => ret_ok (Q := Q) (e := ref12_Two_enc) h hQ) (fun h => ret_ok (Q := Q) (e := ref12_Two_enc) h hQ)) (fun h => ret_ok (Q := Q) (e := ref12_Two_enc) h hQ)) (fun h => ret_ok (Q := Q) (e := ref12_Two_enc) h hQ)) (fun h => ret_ok (Q := Q) (e := ref12_Two_enc) h hQ)) (fun h => cond_ok h (fun h => cond_ok h (fun h => ret_ok (Q := Q) (e := ref12_Two_enc) h hQ) (fun h => ret_ok (Q := Q) (e := ref12_Two_enc) h hQ)) (fun h => ret_ok (Q := Q) (e := ref12_Two_enc) h hQ)))))
def ref12_Two_c : Ans
  | [.pv (.sc .u8 op), .pv (.sc .i a), .pv (.sc .i b)], [] => some (some (I64 a ∧ I64 b), ref12_Two_enc (twoS op a b))
  | _, _ => none
theorem ref12_Two_tok : TblOK Try.prog noG ref12_Two_T := .nil
theorem ref12_Two_ok : FnOK Try.prog noG 10 (unW ref12_Two_c) := by
  refine FnOK.ofC (T := ref12_Two_T) (nt := 85) (np := 0) (nf := false) (hs := ref12_Two_hs) (fn := Try.f10) (body := ref12_Two_b) ref12_Two_tok (by kernel_rfl) (by kernel_rfl) (by kernel_rfl) (by kernel_rfl) (c := ref12_Two_c) (lv := ref12_Two_lv) ?_
  intro xs mem p out h hp
  unfold ref12_Two_c at h
  split at h
  · cases h
    exact ref12_Two_w _ _ _ (ref12_Two_spec _ _ _ hp) rfl
  · cases h
end
end Go.Proofs.Ytpgpagmnhikpiaa.M
