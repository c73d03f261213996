/- Part of the proofs: what functions of the program do: plain functions, and the walks that show it. No condition. -/
import Derived.KernelRfl
import Derived.Test.YtbdajagcinfeeaaDoorProg
import Derived.Test.YtbdajagcinfeeaaDoorLe
import Derived.Test.YtbdajagcinfeeaaDoorSwords
import Derived.Test.YtbdajagcinfeeaaDoorSshaS
import Derived.Test.YtbdajagcinfeeaaDoorSbigS
import Derived.Test.YtbdajagcinfeeaaDoorSendS
import Derived.Test.YtbdajagcinfeeaaDoorStarS
import Derived.Test.YtbdajagcinfeeaaDoorSshaK
set_option linter.unusedVariables false
set_option linter.unusedSimpArgs false
set_option autoImplicit false
namespace Go.Proofs.YtbdajagcinfeeaaDoor.M
open Go
noncomputable section
/-- moneyer/moneyerref01.size -/
def ref01_size (n : Int) : Bool :=
  bif eqb (decide (n = (1 : Int))) false then (bif eqb (bif false then true else (decide (n = (2 : Int)))) false then (bif eqb (bif false then true else (decide (n = (4 : Int)))) false then ((bif false then true else (decide (n = (8 : Int)))))
        else (true))
      else (true))
    else (true)
theorem ref01_size_q (n : Int) : ref01_size n = (bif eqb (decide (n = (1 : Int))) false then (bif eqb (bif false then true else (decide (n = (2 : Int)))) false then (bif eqb (bif false then true else (decide (n = (4 : Int)))) false then ((bif false then true else (decide (n = (8 : Int)))))
        else (true))
      else (true))
    else (true)) := by kernel_rfl
theorem ref01_size_spec (n : Int) : ref01_size n = sizeB n := by
  rw [ref01_size]
  unfold sizeB
  by_cases h1 : n = 1
  · subst h1; rfl
  · by_cases h2 : n = 2
    · subst h2; rfl
    · by_cases h4 : n = 4
      · subst h4; rfl
      · by_cases h8 : n = 8
        · subst h8; rfl
        · simp [h1, h2, h4, h8, eqb]

end
end Go.Proofs.YtbdajagcinfeeaaDoor.M

namespace Go.Proofs.YtbdajagcinfeeaaDoor.M
open Go
noncomputable section
/-- the loop 0 of moneyer/moneyerref01.low -/
def ref01_low_h0 : Nat → UInt64 → Int → Int → (List UInt8) → Option (List UInt8)
  | 0, _, _, _, _ => none
  | k + 1, n, many, i, out => bif decide (i < many) then (if (((List.length (out ++ ([(UInt64.toUInt8 (n % (256 : UInt64)))] : List UInt8))) * (1 : Nat)) ≤ (70368744177664 : Nat)) ∧ ((List.length (out ++ ([(UInt64.toUInt8 (n % (256 : UInt64)))] : List UInt8))) ≤ (70368744177664 : Nat)) then
        ref01_low_h0 k (n / (256 : UInt64)) many (w64 (i + (1 : Int))) (out ++ ([(UInt64.toUInt8 (n % (256 : UInt64)))] : List UInt8))
      else none)
      else (some out)
theorem ref01_low_h0_q (k : Nat) (n : UInt64) (many : Int) (i : Int) (out : List UInt8) : ref01_low_h0 (k + 1) n many i out =
  (bif decide (i < many) then (if (((List.length (out ++ ([(UInt64.toUInt8 (n % (256 : UInt64)))] : List UInt8))) * (1 : Nat)) ≤ (70368744177664 : Nat)) ∧ ((List.length (out ++ ([(UInt64.toUInt8 (n % (256 : UInt64)))] : List UInt8))) ≤ (70368744177664 : Nat)) then
        ref01_low_h0 k (n / (256 : UInt64)) many (w64 (i + (1 : Int))) (out ++ ([(UInt64.toUInt8 (n % (256 : UInt64)))] : List UInt8))
      else none)
      else (some out)) := by kernel_rfl
/-- moneyer/moneyerref01.low -/
def ref01_low (k : Nat) (n : UInt64) (many : Int) : Option (List UInt8) :=
  ref01_low_h0 k n many (0 : Int) ([] : List UInt8)
theorem ref01_low_q (k : Nat) (n : UInt64) (many : Int) : ref01_low k n many = (ref01_low_h0 k n many (0 : Int) ([] : List UInt8)) := by kernel_rfl
theorem ref01_low_spec (n : UInt64) (many : Int) (hp : sizeB many = true) : Ev (fun k => ref01_low k n many) (lowY n.toNat many.toNat) := by
  have h8 := sizeB_le hp
  obtain ⟨m, rfl⟩ : ∃ m : Nat, many = m := ⟨many.toNat, by omega⟩
  have hm : m ≤ 8 := by omega
  have := Ev.inv (H := fun k i (s : UInt64 × List UInt8) => ref01_low_h0 k s.1 (m : Int) i s.2) (n := m) (r := lowY n.toNat m) (fun i s => s.1.toNat = n.toNat / 256 ^ i ∧ s.2 = lowY n.toNat i)
    (by
      rintro i ⟨s1, s2⟩ hi ⟨h1, rfl⟩ h
      have h1 : s1.toNat = n.toNat / 256 ^ i := h1
      refine Ev.step (g := fun k => ref01_low_h0 k (s1 / 256) (m : Int) ((i : Int) + 1) (lowY n.toNat (i + 1))) (fun k => ?_) (h (s1 / 256, lowY n.toNat (i + 1)) ⟨?_, rfl⟩)
      · have e : UInt64.toUInt8 (s1 % 256) = lowF n.toNat i := by
          unfold lowF
          rw [← UInt8.toNat_inj, ← h1]
          simp
        show ref01_low_h0 (k + 1) s1 (m : Int) (i : Int) (lowY n.toNat i) = _
        rw [ref01_low_h0, bif_pos (by omega), e, ← lowY_succ, if_pos (by rw [lowY_len]; omega), w64_id (by omega) (by omega)]
      · show (s1 / 256).toNat = _
        rw [UInt64.toNat_div, h1, show (256 : UInt64).toNat = 256 from rfl, Nat.div_div_eq_div_mul, Nat.pow_succ])
    (by
      rintro ⟨s1, s2⟩ ⟨_, rfl⟩
      refine Ev.done fun k => ?_
      show ref01_low_h0 (k + 1) s1 (m : Int) (m : Int) (lowY n.toNat m) = _
      rw [ref01_low_h0, bif_neg (by omega)])
    m 0 (n, []) (by omega) ⟨by simp, by simp [lowY]⟩
  exact this

end
end Go.Proofs.YtbdajagcinfeeaaDoor.M

namespace Go.Proofs.YtbdajagcinfeeaaDoor.M
open Go
noncomputable section
/-- moneyer/moneyerref01.Put -/
def ref01_Put (n : UInt64) (many : Int) : Option (Int × List UInt8) :=
  bif eqb (!(sizeB many)) false then (bif eqb (decide (many < (8 : Int))) true then (if (0 : Int) ≤ (w64 ((8 : Int) * many)) then
        bif bif false then true else (bif true then (!(decide ((shr_u64 n (Int.toNat (w64 ((8 : Int) * many)))) = (0 : UInt64)))) else false) then (some ((2 : Int), ([] : List UInt8)))
          else (if (sizeB many) = true then
            some ((0 : Int), (lowY (UInt64.toNat n) (Int.toNat many)))
          else none)
      else none)
      else (if (sizeB many) = true then
        some ((0 : Int), (lowY (UInt64.toNat n) (Int.toNat many)))
      else none))
    else (some ((2 : Int), ([] : List UInt8)))
theorem ref01_Put_q (n : UInt64) (many : Int) : ref01_Put n many = (bif eqb (!(sizeB many)) false then (bif eqb (decide (many < (8 : Int))) true then (if (0 : Int) ≤ (w64 ((8 : Int) * many)) then
        bif bif false then true else (bif true then (!(decide ((shr_u64 n (Int.toNat (w64 ((8 : Int) * many)))) = (0 : UInt64)))) else false) then (some ((2 : Int), ([] : List UInt8)))
          else (if (sizeB many) = true then
            some ((0 : Int), (lowY (UInt64.toNat n) (Int.toNat many)))
          else none)
      else none)
      else (if (sizeB many) = true then
        some ((0 : Int), (lowY (UInt64.toNat n) (Int.toNat many)))
      else none))
    else (some ((2 : Int), ([] : List UInt8)))) := by kernel_rfl
theorem ref01_Put_spec (n : UInt64) (many : Int) : ref01_Put n many = some (putR n many, putL n many) := by
  rw [ref01_Put]
  rw [putL_eq]
  unfold putR
  cases hs : sizeB many with
  | false => simp [eqb]
  | true =>
    have h8 := sizeB_le hs
    obtain ⟨m, rfl⟩ : ∃ m : Nat, many = m := ⟨many.toNat, by omega⟩
    by_cases h : m < 8
    · have w8 : w64 ((8 : Int) * (m : Int)) = ((8 * m : Nat) : Int) := by rw [w64_id (by omega) (by omega)]; omega
      rw [decide_eq_true (p := ((m : Nat) : Int) < 8) (by omega), w8, Int.toNat_natCast, Int.toNat_natCast]
      by_cases g : n.toNat < 256 ^ m
      · have e : shr_u64 n (8 * m) = 0 := Decidable.byContradiction fun q => by have := (shr_pos n m h).1 ((u64_zero_lt _).2 q); omega
        rw [decide_eq_true e]
        simp [eqb, g]
        try omega
      · have e : ¬ (shr_u64 n (8 * m) = 0) := (u64_zero_lt _).1 ((shr_pos n m h).2 (by omega))
        rw [decide_eq_false e]
        simp [eqb, g]
        try omega
    · have hm : m = 8 := by omega
      subst hm
      have hn := n.toNat_lt
      have g : n.toNat < 256 ^ (8 : Nat) := by omega
      rw [decide_eq_false (p := ((8 : Nat) : Int) < 8) (by omega), Int.toNat_natCast]
      simp [eqb, g]

end
end Go.Proofs.YtbdajagcinfeeaaDoor.M

namespace Go.Proofs.YtbdajagcinfeeaaDoor.M
open Go
noncomputable section
set_option maxRecDepth 100000
set_option maxHeartbeats 0
noncomputable def ref01_size_T : Tbl := []
noncomputable def ref01_size_C : CfgW := mkC Tryd.prog theG ref01_size_T 17 0 false
def ref01_size_lv : Nat → List Nat := fun i => []
noncomputable abbrev ref01_size_b : Code := Tryd.f60.body.getD .skip
noncomputable abbrev ref01_size_r : List ResultVar := Tryd.f60.results.toList
def ref01_size_hs : List Nat := []

def ref01_size_enc (r : Bool) : CallOut := ⟨.pv (.sc .b r), [], true, []⟩
theorem ref01_size_e (n : Int) (Q : CallOut → Prop) : evalFnP ref01_size_C ref01_size_lv ref01_size_r ref01_size_hs ref01_size_b [.pv (.sc .i n)] [] Q =
    (condP (eqb (decide (n = (1 : Int))) false) (condP (eqb (bif false then true else (decide (n = (2 : Int)))) false) (condP (eqb (bif false then true else (decide (n = (4 : Int)))) false) (Q (ref01_size_enc (bif false then true else (decide (n = (8 : Int)))))) (Q (ref01_size_enc true))) (Q (ref01_size_enc true))) (Q (ref01_size_enc true))) := by kernel_rfl
theorem ref01_size_w (n : Int) {Q : CallOut → Prop} (h : Q (ref01_size_enc (ref01_size n))) : evalFnP ref01_size_C ref01_size_lv ref01_size_r ref01_size_hs ref01_size_b [.pv (.sc .i n)] [] Q :=
  Eq.mpr (ref01_size_e n Q) (have h := Eq.mp (congrArg (fun r => Q (ref01_size_enc r)) (ref01_size_q n)) h; cond_ok2 (Q := fun r => Q (ref01_size_enc r)) h (fun h => cond_ok2 (Q := fun r => Q (ref01_size_enc r)) h (fun h => cond_ok2 (Q := fun r => Q (ref01_size_enc r)) h (fun h => h) (fun h => h)) (fun h => h)) (fun h => h))
def ref01_size_c : Ans
  | [.pv (.sc .i n)], [] => some (none, ref01_size_enc (sizeB n))
  | _, _ => none
theorem ref01_size_tok : TblOK Tryd.prog theG ref01_size_T := .nil
theorem ref01_size_ok : FnOK Tryd.prog theG 60 (unW ref01_size_c) := by
  refine FnOK.ofC (T := ref01_size_T) (nt := 17) (np := 0) (mv := []) (nf := false) (hs := ref01_size_hs) (fn := Tryd.f60) (body := ref01_size_b) ref01_size_tok (by kernel_rfl) (by kernel_rfl) (by kernel_rfl) (by kernel_rfl) (c := ref01_size_c) (lv := ref01_size_lv) ?_
  intro xs mem p out h hp
  unfold ref01_size_c at h
  split at h
  · cases h
    exact ref01_size_w _ (congrArg ref01_size_enc (ref01_size_spec _))
  · cases h
end
end Go.Proofs.YtbdajagcinfeeaaDoor.M

namespace Go.Proofs.YtbdajagcinfeeaaDoor.M
open Go
noncomputable section
set_option maxRecDepth 100000
set_option maxHeartbeats 0
noncomputable def ref01_low_T : Tbl := []
noncomputable def ref01_low_C : CfgW := mkC Tryd.prog theG ref01_low_T 21 0 false
def ref01_low_lv : Nat → List Nat := fun i => bif Nat.beq i 0 then [0, 1, 5, 6] else []
noncomputable abbrev ref01_low_b : Code := Tryd.f61.body.getD .skip
noncomputable abbrev ref01_low_r : List ResultVar := Tryd.f61.results.toList
def ref01_low_hs : List Nat := []

def ref01_low_enc (r : List UInt8) : CallOut := ⟨.o 60000, [(60000, .row (.s .u8 r) false)], true, []⟩
def ref01_low_s0 (n : UInt64) (many : Int) (i : Int) (out : List UInt8) : St := ⟨[(0, .pv (.sc .u64 n)), (1, .pv (.sc .i many)), (5, .o 60000), (6, .pv (.sc .i i))], [(60000, .row (.s .u8 out) false)]⟩
theorem ref01_low_g0 (n : UInt64) (many : Int) (i : Int) (out : List UInt8) (Q : CallOut → Prop) : headRound ref01_low_C ref01_low_lv [true, true, false, true, false] ref01_low_b (ref01_low_s0 n many i out) (fnK ref01_low_C ref01_low_r ref01_low_hs Q) =
    (condP (decide (i < many)) (((256 : UInt64) ≠ (0 : UInt64)) ∧ (((((List.length (out ++ ([(UInt64.toUInt8 (n % (256 : UInt64)))] : List UInt8))) * (1 : Nat)) ≤ (70368744177664 : Nat)) ∧ ((List.length (out ++ ([(UInt64.toUInt8 (n % (256 : UInt64)))] : List UInt8))) ≤ (70368744177664 : Nat))) ∧ (((256 : UInt64) ≠ (0 : UInt64)) ∧ (headP ref01_low_C ref01_low_lv [true, true, false, true, false] ref01_low_b (ref01_low_s0 (n / (256 : UInt64)) many (w64 (i + (1 : Int))) (out ++ ([(UInt64.toUInt8 (n % (256 : UInt64)))] : List UInt8))) (fnK ref01_low_C ref01_low_r ref01_low_hs Q))))) (Q (ref01_low_enc out))) := by kernel_rfl
theorem ref01_low_k0 {r : List UInt8} {Q : CallOut → Prop} (hQ : Q (ref01_low_enc r)) : ∀ k : Nat, (∀ (n : UInt64) (many : Int) (i : Int) (out : List UInt8), ref01_low_h0 k n many i out = some r → headP ref01_low_C ref01_low_lv [true, true, false, true, false] ref01_low_b (ref01_low_s0 n many i out) (fnK ref01_low_C ref01_low_r ref01_low_hs Q))
  | 0 => fun _ _ _ _ h => no_ok h
  | k + 1 => fun n many i out h => headP_step (Eq.mpr (ref01_low_g0 n many i out Q) (have h := (ref01_low_h0_q k n many i out).symm.trans h; cond_ok h (fun h => ⟨by decide +kernel, ite_ok h fun hc0 h => ⟨by decide +kernel, (ref01_low_k0 hQ k) _ _ _ _ h⟩⟩) (fun h => ret_ok (Q := Q) (e := ref01_low_enc) h hQ)))
theorem ref01_low_e (n : UInt64) (many : Int) (Q : CallOut → Prop) : evalFnP ref01_low_C ref01_low_lv ref01_low_r ref01_low_hs ref01_low_b [.pv (.sc .u64 n), .pv (.sc .i many)] [] Q =
    (headP ref01_low_C ref01_low_lv [true, true, false, true, false] ref01_low_b (ref01_low_s0 n many (0 : Int) ([] : List UInt8)) (fnK ref01_low_C ref01_low_r ref01_low_hs Q)) := by kernel_rfl
theorem ref01_low_w {k : Nat} (n : UInt64) (many : Int) {r} {Q : CallOut → Prop} (h : ref01_low k n many = some r) (hQ : Q (ref01_low_enc r)) : evalFnP ref01_low_C ref01_low_lv ref01_low_r ref01_low_hs ref01_low_b [.pv (.sc .u64 n), .pv (.sc .i many)] [] Q :=
  Eq.mpr (ref01_low_e n many Q) (have h := (ref01_low_q k n many).symm.trans h; (ref01_low_k0 hQ _) _ _ _ _ h)
def ref01_low_c : Ans
  | [.pv (.sc .u64 n), .pv (.sc .i many)], [] => some (some (sizeB many = true), ref01_low_enc (lowY n.toNat many.toNat))
  | _, _ => none
theorem ref01_low_tok : TblOK Tryd.prog theG ref01_low_T := .nil
theorem ref01_low_ok : FnOK Tryd.prog theG 61 (unW ref01_low_c) := by
  refine FnOK.ofC (T := ref01_low_T) (nt := 21) (np := 0) (mv := []) (nf := false) (hs := ref01_low_hs) (fn := Tryd.f61) (body := ref01_low_b) ref01_low_tok (by kernel_rfl) (by kernel_rfl) (by kernel_rfl) (by kernel_rfl) (c := ref01_low_c) (lv := ref01_low_lv) ?_
  intro xs mem p out h hp
  unfold ref01_low_c at h
  split at h
  · cases h
    obtain ⟨k, hk⟩ := ref01_low_spec _ _ hp
    exact ref01_low_w _ _ hk rfl
  · cases h
end
end Go.Proofs.YtbdajagcinfeeaaDoor.M

namespace Go.Proofs.YtbdajagcinfeeaaDoor.M
open Go
noncomputable section
set_option maxRecDepth 100000
set_option maxHeartbeats 0
noncomputable def ref01_Put_T : Tbl := [(60, [], ref01_size_c), (61, [], ref01_low_c)]
noncomputable def ref01_Put_C : CfgW := mkC Tryd.prog theG ref01_Put_T 23 0 false
def ref01_Put_lv : Nat → List Nat := fun i => []
noncomputable abbrev ref01_Put_b : Code := Tryd.f44.body.getD .skip
noncomputable abbrev ref01_Put_r : List ResultVar := Tryd.f44.results.toList
def ref01_Put_hs : List Nat := []

def ref01_Put_enc (r : Int × List UInt8) : CallOut := ⟨.tup [.o 60000, .pv (.sc .i r.1)], [(60000, .row (.s .u8 r.2) false)], true, []⟩
theorem ref01_Put_e (n : UInt64) (many : Int) (Q : CallOut → Prop) : evalFnP ref01_Put_C ref01_Put_lv ref01_Put_r ref01_Put_hs ref01_Put_b [.pv (.sc .u64 n), .pv (.sc .i many)] [] Q =
    (condP (eqb (!(sizeB many)) false) (condP (eqb (decide (many < (8 : Int))) true) (((0 : Int) ≤ (w64 ((8 : Int) * many))) ∧ (condP (bif false then true else (bif true then (!(decide ((shr_u64 n (Int.toNat (w64 ((8 : Int) * many)))) = (0 : UInt64)))) else false)) (Q (ref01_Put_enc ((2 : Int), ([] : List UInt8)))) (((sizeB many) = true) ∧ (Q (ref01_Put_enc ((0 : Int), (lowY (UInt64.toNat n) (Int.toNat many)))))))) (((sizeB many) = true) ∧ (Q (ref01_Put_enc ((0 : Int), (lowY (UInt64.toNat n) (Int.toNat many))))))) (Q (ref01_Put_enc ((2 : Int), ([] : List UInt8))))) := by kernel_rfl
theorem ref01_Put_w (n : UInt64) (many : Int) {r} {Q : CallOut → Prop} (h : ref01_Put n many = some r) (hQ : Q (ref01_Put_enc r)) : evalFnP ref01_Put_C ref01_Put_lv ref01_Put_r ref01_Put_hs ref01_Put_b [.pv (.sc .u64 n), .pv (.sc .i many)] [] Q :=
  Eq.mpr (ref01_Put_e n many Q) (have h := (ref01_Put_q n many).symm.trans h; cond_ok h (fun h => cond_ok h (fun h => ite_ok h fun hc0 h => cond_ok h (fun h => ret_ok (Q := Q) (e := ref01_Put_enc) h hQ) (fun h => ite_ok h fun hc1 h => ret_ok (Q := Q) (e := ref01_Put_enc) h hQ)) (fun h => ite_ok h fun hc0 h => ret_ok (Q := Q) (e := ref01_Put_enc) h hQ)) (fun h => ret_ok (Q := Q) (e := ref01_Put_enc) h hQ))
def ref01_Put_c : Ans
  | [.pv (.sc .u64 n), .pv (.sc .i many)], [] => some (none, ref01_Put_enc ((putR n many, putL n many)))
  | _, _ => none
theorem ref01_Put_tok : TblOK Tryd.prog theG ref01_Put_T := .cons ⟨by kernel_rfl, ref01_size_ok⟩ (.cons ⟨by kernel_rfl, ref01_low_ok⟩ (.nil))
theorem ref01_Put_ok : FnOK Tryd.prog theG 44 (unW ref01_Put_c) := by
  refine FnOK.ofC (T := ref01_Put_T) (nt := 23) (np := 0) (mv := []) (nf := false) (hs := ref01_Put_hs) (fn := Tryd.f44) (body := ref01_Put_b) ref01_Put_tok (by kernel_rfl) (by kernel_rfl) (by kernel_rfl) (by kernel_rfl) (c := ref01_Put_c) (lv := ref01_Put_lv) ?_
  intro xs mem p out h hp
  unfold ref01_Put_c at h
  split at h
  · cases h
    exact ref01_Put_w _ _ (ref01_Put_spec _ _) rfl
  · cases h
end
end Go.Proofs.YtbdajagcinfeeaaDoor.M
