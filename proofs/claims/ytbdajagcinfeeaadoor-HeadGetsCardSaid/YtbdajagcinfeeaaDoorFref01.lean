/- Part of the proofs: what functions of the program do: plain functions, and the walks that show it. No condition. -/
import Derived.KernelRfl
import Derived.Test.YtbdajagcinfeeaaDoorProg
import Derived.Test.YtbdajagcinfeeaaDoorLe
import Derived.Test.YtbdajagcinfeeaaDoorSwords
import Derived.Test.YtbdajagcinfeeaaDoorSshaS
import Derived.Test.YtbdajagcinfeeaaDoorSbigS
import Derived.Test.YtbdajagcinfeeaaDoorSendS
import Derived.Test.YtbdajagcinfeeaaDoorStarS
import Derived.Test.YtbdajagcinfeeaaDoorSshaK
set_option linter.unusedVariables false
set_option linter.unusedSimpArgs false
set_option autoImplicit false
namespace Go.Proofs.YtbdajagcinfeeaaDoor.M
open Go
noncomputable section
/-- the loop 0 of moneyer/moneyerref01.Part -/
def ref01_Part_h0 : Nat → (List UInt8) → Int → Int → Int → (List UInt8) → Option (Int × List UInt8)
  | 0, _, _, _, _, _ => none
  | k + 1, b, at_, n, i, out => bif decide (i < n) then (if ((0 : Int) ≤ (w64 (at_ + i))) ∧ ((w64 (at_ + i)) < (((List.length b) : Nat) : Int)) then
        if (((List.length (out ++ ([(List.getD b (Int.toNat (w64 (at_ + i))) (0 : UInt8))] : List UInt8))) * (1 : Nat)) ≤ (70368744177664 : Nat)) ∧ ((List.length (out ++ ([(List.getD b (Int.toNat (w64 (at_ + i))) (0 : UInt8))] : List UInt8))) ≤ (70368744177664 : Nat)) then
          ref01_Part_h0 k b at_ n (w64 (i + (1 : Int))) (out ++ ([(List.getD b (Int.toNat (w64 (at_ + i))) (0 : UInt8))] : List UInt8))
        else none
      else none)
      else (some ((0 : Int), out))
theorem ref01_Part_h0_q (k : Nat) (b : List UInt8) (at_ : Int) (n : Int) (i : Int) (out : List UInt8) : ref01_Part_h0 (k + 1) b at_ n i out =
  (bif decide (i < n) then (if ((0 : Int) ≤ (w64 (at_ + i))) ∧ ((w64 (at_ + i)) < (((List.length b) : Nat) : Int)) then
        if (((List.length (out ++ ([(List.getD b (Int.toNat (w64 (at_ + i))) (0 : UInt8))] : List UInt8))) * (1 : Nat)) ≤ (70368744177664 : Nat)) ∧ ((List.length (out ++ ([(List.getD b (Int.toNat (w64 (at_ + i))) (0 : UInt8))] : List UInt8))) ≤ (70368744177664 : Nat)) then
          ref01_Part_h0 k b at_ n (w64 (i + (1 : Int))) (out ++ ([(List.getD b (Int.toNat (w64 (at_ + i))) (0 : UInt8))] : List UInt8))
        else none
      else none)
      else (some ((0 : Int), out))) := by kernel_rfl
/-- moneyer/moneyerref01.Part -/
def ref01_Part (k : Nat) (b : List UInt8) (at_1 : Int) (n : Int) : Option (Int × List UInt8) :=
  bif eqb (decide (at_1 < (0 : Int))) false then (bif eqb (bif false then true else (decide ((((List.length b) : Nat) : Int) < at_1))) false then (bif bif false then true else (decide (n < (0 : Int))) then (some ((2 : Int), ([] : List UInt8)))
        else (bif decide ((w64 ((((List.length b) : Nat) : Int) - at_1)) < n) then (some ((4 : Int), ([] : List UInt8)))
          else (ref01_Part_h0 k b at_1 n (0 : Int) ([] : List UInt8))))
      else (some ((2 : Int), ([] : List UInt8))))
    else (some ((2 : Int), ([] : List UInt8)))
theorem ref01_Part_q (k : Nat) (b : List UInt8) (at_1 : Int) (n : Int) : ref01_Part k b at_1 n = (bif eqb (decide (at_1 < (0 : Int))) false then (bif eqb (bif false then true else (decide ((((List.length b) : Nat) : Int) < at_1))) false then (bif bif false then true else (decide (n < (0 : Int))) then (some ((2 : Int), ([] : List UInt8)))
        else (bif decide ((w64 ((((List.length b) : Nat) : Int) - at_1)) < n) then (some ((4 : Int), ([] : List UInt8)))
          else (ref01_Part_h0 k b at_1 n (0 : Int) ([] : List UInt8))))
      else (some ((2 : Int), ([] : List UInt8))))
    else (some ((2 : Int), ([] : List UInt8)))) := by kernel_rfl
theorem ref01_Part_spec (b : List UInt8) (at_ n : Int) (hp : b.length ≤ 140737488351232 ∧ n ≤ 70368744177664) : Ev (fun k => ref01_Part k b at_ n) (partE b at_ n, partL b at_ n) := by
  by_cases h1 : at_ < 0
  · have e : partE b at_ n = 2 := by rw [partE_eq, if_pos (.inl h1)]
    rw [partL_eq, e]
    exact Ev.done fun k => by rw [ref01_Part, decide_eq_true h1]; rfl
  · by_cases h2 : (b.length : Int) < at_
    · have e : partE b at_ n = 2 := by rw [partE_eq, if_pos (.inr (.inl h2))]
      rw [partL_eq, e]
      exact Ev.done fun k => by rw [ref01_Part, decide_eq_false h1, decide_eq_true h2]; rfl
    · by_cases h3 : n < 0
      · have e : partE b at_ n = 2 := by rw [partE_eq, if_pos (.inr (.inr h3))]
        rw [partL_eq, e]
        exact Ev.done fun k => by rw [ref01_Part, decide_eq_false h1, decide_eq_false h2, decide_eq_true h3]; rfl
      · have w1 : w64 ((b.length : Int) - at_) = (b.length : Int) - at_ := w64_id (by omega) (by omega)
        by_cases h4 : (b.length : Int) - at_ < n
        · have e : partE b at_ n = 4 := by rw [partE_eq, if_neg (by omega), if_pos h4]
          rw [partL_eq, e]
          exact Ev.done fun k => by rw [ref01_Part, decide_eq_false h1, decide_eq_false h2, decide_eq_false h3, w1, decide_eq_true h4]; rfl
        · have e : partE b at_ n = 0 := by rw [partE_eq, if_neg (by omega), if_neg h4]
          rw [partL_eq, e, if_pos rfl]
          obtain ⟨m, rfl⟩ : ∃ m : Nat, n = m := ⟨n.toNat, by omega⟩
          obtain ⟨a, rfl⟩ : ∃ a : Nat, at_ = a := ⟨at_.toNat, by omega⟩
          have := Ev.inv (H := fun k i s => ref01_Part_h0 k b (a : Int) (m : Int) i s) (n := m) (r := ((0 : Int), (b.drop a).take m)) (fun i s => s = (b.drop a).take i)
            (by
              rintro i s hi rfl h
              refine Ev.step (fun k => ?_) (h _ rfl)
              have ht : (b.drop a).take i ++ [b.getD (a + i) 0] = (b.drop a).take (i + 1) := by
                rw [List.take_succ_eq_append_getElem (by rw [List.length_drop]; omega), List.getElem_drop]
                simp [List.getD, show a + i < b.length by omega]
              have w2 : w64 ((a : Int) + (i : Int)) = ((a + i : Nat) : Int) := by rw [w64_id (by omega) (by omega)]; omega
              rw [ref01_Part_h0, bif_pos (by omega), w2, if_pos (by omega), Int.toNat_natCast, ht, if_pos (by rw [List.length_take, List.length_drop]; omega), w64_id (by omega) (by omega)])
            (by
              rintro s rfl
              exact Ev.done fun k => by rw [ref01_Part_h0, bif_neg (by omega)])
            m 0 [] (by omega) (by simp)
          refine Ev.same (fun k => ?_) this
          rw [ref01_Part, decide_eq_false h1, decide_eq_false h2, decide_eq_false h3, w1, decide_eq_false h4]
          rfl

end
end Go.Proofs.YtbdajagcinfeeaaDoor.M

namespace Go.Proofs.YtbdajagcinfeeaaDoor.M
open Go
noncomputable section
/-- moneyer/moneyerref01.size -/
def ref01_size (n : Int) : Bool :=
  bif eqb (decide (n = (1 : Int))) false then (bif eqb (bif false then true else (decide (n = (2 : Int)))) false then (bif eqb (bif false then true else (decide (n = (4 : Int)))) false then ((bif false then true else (decide (n = (8 : Int)))))
        else (true))
      else (true))
    else (true)
theorem ref01_size_q (n : Int) : ref01_size n = (bif eqb (decide (n = (1 : Int))) false then (bif eqb (bif false then true else (decide (n = (2 : Int)))) false then (bif eqb (bif false then true else (decide (n = (4 : Int)))) false then ((bif false then true else (decide (n = (8 : Int)))))
        else (true))
      else (true))
    else (true)) := by kernel_rfl
theorem ref01_size_spec (n : Int) : ref01_size n = sizeB n := by
  rw [ref01_size]
  unfold sizeB
  by_cases h1 : n = 1
  · subst h1; rfl
  · by_cases h2 : n = 2
    · subst h2; rfl
    · by_cases h4 : n = 4
      · subst h4; rfl
      · by_cases h8 : n = 8
        · subst h8; rfl
        · simp [h1, h2, h4, h8, eqb]

end
end Go.Proofs.YtbdajagcinfeeaaDoor.M

namespace Go.Proofs.YtbdajagcinfeeaaDoor.M
open Go
noncomputable section
/-- the loop 0 of moneyer/moneyerref01.Get -/
def ref01_Get_h0 : Nat → Int → UInt64 → Int → (List UInt8) → Option (UInt64 × Int)
  | 0, _, _, _, _ => none
  | k + 1, e, n, i, p => bif decide ((0 : Int) ≤ i) then (if ((0 : Int) ≤ i) ∧ (i < (((List.length p) : Nat) : Int)) then
        ref01_Get_h0 k e (((256 : UInt64) * n) + (UInt8.toUInt64 (List.getD p (Int.toNat i) (0 : UInt8)))) (w64 (i - (1 : Int))) p
      else none)
      else (some (n, e))
theorem ref01_Get_h0_q (k : Nat) (e : Int) (n : UInt64) (i : Int) (p : List UInt8) : ref01_Get_h0 (k + 1) e n i p =
  (bif decide ((0 : Int) ≤ i) then (if ((0 : Int) ≤ i) ∧ (i < (((List.length p) : Nat) : Int)) then
        ref01_Get_h0 k e (((256 : UInt64) * n) + (UInt8.toUInt64 (List.getD p (Int.toNat i) (0 : UInt8)))) (w64 (i - (1 : Int))) p
      else none)
      else (some (n, e))) := by kernel_rfl
/-- moneyer/moneyerref01.Get -/
def ref01_Get (k : Nat) (b : List UInt8) (at_1 : Int) (many : Int) : Option (UInt64 × Int) :=
  bif !(sizeB many) then (some ((0 : UInt64), (2 : Int)))
    else (if ((List.length b) ≤ (140737488351232 : Nat)) ∧ (many ≤ (70368744177664 : Int)) then
      ref01_Get_h0 k (partE b at_1 many) (0 : UInt64) (w64 ((((List.length (partL b at_1 many)) : Nat) : Int) - (1 : Int))) (partL b at_1 many)
    else none)
theorem ref01_Get_q (k : Nat) (b : List UInt8) (at_1 : Int) (many : Int) : ref01_Get k b at_1 many = (bif !(sizeB many) then (some ((0 : UInt64), (2 : Int)))
    else (if ((List.length b) ≤ (140737488351232 : Nat)) ∧ (many ≤ (70368744177664 : Int)) then
      ref01_Get_h0 k (partE b at_1 many) (0 : UInt64) (w64 ((((List.length (partL b at_1 many)) : Nat) : Int) - (1 : Int))) (partL b at_1 many)
    else none)) := by kernel_rfl
theorem ref01_Get_gen (p : List UInt8) (hl : p.length ≤ 8) (e : Int) : Ev (fun k => ref01_Get_h0 k e 0 ((p.length : Int) - 1) p) (UInt64.ofNat (valN p), e) := by
  refine Ev.dwn (H := fun k i (s : UInt64) => ref01_Get_h0 k e s i p) (n := p.length) (fun i s => s = UInt64.ofNat (valN (p.drop i))) ?_ ?_ p.length 0 (Nat.le_refl _) (by rw [List.drop_length]; rfl)
  · rintro i s hi rfl h
    have hx : valN (p.drop i) = (p.getD i 0).toNat + 256 * valN (p.drop (i + 1)) := by
      rw [List.drop_eq_getElem_cons hi]
      simp [valN, List.getD, hi]
    refine Ev.step (fun k => ?_) (h _ rfl)
    have e2 : (256 : UInt64) * UInt64.ofNat (valN (p.drop (i + 1))) + UInt8.toUInt64 (p.getD i 0) = UInt64.ofNat (valN (p.drop i)) := by
      rw [hx, ← UInt64.toNat_inj]
      rw [UInt64.toNat_add, UInt64.toNat_mul, UInt64.toNat_ofNat', UInt64.toNat_ofNat', UInt8.toNat_toUInt64, show (256 : UInt64).toNat = 256 from rfl]
      omega
    rw [ref01_Get_h0, bif_pos (by omega), if_pos (by omega), Int.toNat_natCast, e2, w64_id (by omega) (by omega)]
  · rintro s rfl
    exact Ev.done fun k => by rw [ref01_Get_h0, bif_neg (by omega)]; rfl
theorem ref01_Get_spec (b : List UInt8) (at_ many : Int) (hp : b.length ≤ 140737488351232) : Ev (fun k => ref01_Get k b at_ many) (getN b at_ many, getE b at_ many) := by
  cases hs : sizeB many with
  | false =>
    have e : getE b at_ many = 2 := by rw [getE_eq, hs]; rfl
    rw [getN_eq, e]
    exact Ev.done fun k => by rw [ref01_Get, hs]; rfl
  | true =>
    have h8 := sizeB_le hs
    have e : getE b at_ many = partE b at_ many := by rw [getE_eq, hs]; rfl
    rw [getN_eq, e]
    have hlen : (partL b at_ many).length ≤ 8 := by
      by_cases h : partE b at_ many = 0
      · rw [partL_len h]; omega
      · rw [partL_eq, if_neg h]; simp
    have hv : (if partE b at_ many = 0 then UInt64.ofNat (valN (partL b at_ many)) else 0) = UInt64.ofNat (valN (partL b at_ many)) := by
      by_cases h : partE b at_ many = 0
      · rw [if_pos h]
      · rw [if_neg h, partL_eq, if_neg h]; rfl
    rw [hv]
    refine Ev.same (fun k => ?_) (ref01_Get_gen (partL b at_ many) hlen (partE b at_ many))
    rw [ref01_Get, hs, if_pos ⟨hp, by omega⟩, w64_id (by omega) (by omega)]
    rfl

end
end Go.Proofs.YtbdajagcinfeeaaDoor.M

namespace Go.Proofs.YtbdajagcinfeeaaDoor.M
open Go
noncomputable section
set_option maxRecDepth 100000
set_option maxHeartbeats 0
noncomputable def ref01_Part_T : Tbl := []
noncomputable def ref01_Part_C : CfgW := mkC Tryd.prog theG ref01_Part_T 43 0 false
def ref01_Part_lv : Nat → List Nat := fun i => bif Nat.beq i 0 then [0, 1, 2, 8, 9] else []
noncomputable abbrev ref01_Part_b : Code := Tryd.f52.body.getD .skip
noncomputable abbrev ref01_Part_r : List ResultVar := Tryd.f52.results.toList
def ref01_Part_hs : List Nat := []

def ref01_Part_enc (r : Int × List UInt8) : CallOut := ⟨.tup [.o 60000, .pv (.sc .i r.1)], [(60000, .row (.s .u8 r.2) false)], true, []⟩
def ref01_Part_s0 (b : List UInt8) (at_ : Int) (n : Int) (i : Int) (out : List UInt8) : St := ⟨[(0, .pv (.sl .u8 b)), (1, .pv (.sc .i at_)), (2, .pv (.sc .i n)), (8, .o 60000), (9, .pv (.sc .i i))], [(60000, .row (.s .u8 out) false)]⟩
theorem ref01_Part_g0 (b : List UInt8) (at_ : Int) (n : Int) (i : Int) (out : List UInt8) (Q : CallOut → Prop) : headRound ref01_Part_C ref01_Part_lv [true, true, true, true, false, true, false] ref01_Part_b (ref01_Part_s0 b at_ n i out) (fnK ref01_Part_C ref01_Part_r ref01_Part_hs Q) =
    (condP (decide (i < n)) ((((0 : Int) ≤ (w64 (at_ + i))) ∧ ((w64 (at_ + i)) < (((List.length b) : Nat) : Int))) ∧ (((((List.length (out ++ ([(List.getD b (Int.toNat (w64 (at_ + i))) (0 : UInt8))] : List UInt8))) * (1 : Nat)) ≤ (70368744177664 : Nat)) ∧ ((List.length (out ++ ([(List.getD b (Int.toNat (w64 (at_ + i))) (0 : UInt8))] : List UInt8))) ≤ (70368744177664 : Nat))) ∧ (headP ref01_Part_C ref01_Part_lv [true, true, true, true, false, true, false] ref01_Part_b (ref01_Part_s0 b at_ n (w64 (i + (1 : Int))) (out ++ ([(List.getD b (Int.toNat (w64 (at_ + i))) (0 : UInt8))] : List UInt8))) (fnK ref01_Part_C ref01_Part_r ref01_Part_hs Q)))) (Q (ref01_Part_enc ((0 : Int), out)))) := by kernel_rfl
theorem ref01_Part_k0 {r : Int × List UInt8} {Q : CallOut → Prop} (hQ : Q (ref01_Part_enc r)) : ∀ k : Nat, (∀ (b : List UInt8) (at_ : Int) (n : Int) (i : Int) (out : List UInt8), ref01_Part_h0 k b at_ n i out = some r → headP ref01_Part_C ref01_Part_lv [true, true, true, true, false, true, false] ref01_Part_b (ref01_Part_s0 b at_ n i out) (fnK ref01_Part_C ref01_Part_r ref01_Part_hs Q))
  | 0 => fun _ _ _ _ _ h => no_ok h
  | k + 1 => fun b at_ n i out h => headP_step (Eq.mpr (ref01_Part_g0 b at_ n i out Q) (have h := (ref01_Part_h0_q k b at_ n i out).symm.trans h; cond_ok h (fun h => ite_ok h fun hc0 h => ite_ok h fun hc1 h => (ref01_Part_k0 hQ k) _ _ _ _ _ h) (fun h => ret_ok (Q := Q) (e := ref01_Part_enc) h hQ)))
theorem ref01_Part_e (b : List UInt8) (at_1 : Int) (n : Int) (Q : CallOut → Prop) : evalFnP ref01_Part_C ref01_Part_lv ref01_Part_r ref01_Part_hs ref01_Part_b [.pv (.sl .u8 b), .pv (.sc .i at_1), .pv (.sc .i n)] [] Q =
    (condP (eqb (decide (at_1 < (0 : Int))) false) (condP (eqb (bif false then true else (decide ((((List.length b) : Nat) : Int) < at_1))) false) (condP (bif false then true else (decide (n < (0 : Int)))) (Q (ref01_Part_enc ((2 : Int), ([] : List UInt8)))) (condP (decide ((w64 ((((List.length b) : Nat) : Int) - at_1)) < n)) (Q (ref01_Part_enc ((4 : Int), ([] : List UInt8)))) (headP ref01_Part_C ref01_Part_lv [true, true, true, true, false, true, false] ref01_Part_b (ref01_Part_s0 b at_1 n (0 : Int) ([] : List UInt8)) (fnK ref01_Part_C ref01_Part_r ref01_Part_hs Q)))) (Q (ref01_Part_enc ((2 : Int), ([] : List UInt8))))) (Q (ref01_Part_enc ((2 : Int), ([] : List UInt8))))) := by kernel_rfl
theorem ref01_Part_w {k : Nat} (b : List UInt8) (at_1 : Int) (n : Int) {r} {Q : CallOut → Prop} (h : ref01_Part k b at_1 n = some r) (hQ : Q (ref01_Part_enc r)) : evalFnP ref01_Part_C ref01_Part_lv ref01_Part_r ref01_Part_hs ref01_Part_b [.pv (.sl .u8 b), .pv (.sc .i at_1), .pv (.sc .i n)] [] Q :=
  Eq.mpr (ref01_Part_e b at_1 n Q) (have h := (ref01_Part_q k b at_1 n).symm.trans h; cond_ok h (fun h => cond_ok h (fun h => cond_ok h (fun h => ret_ok (Q := Q) (e := ref01_Part_enc) h hQ) (fun h => cond_ok h (fun h => ret_ok (Q := Q) (e := ref01_Part_enc) h hQ) (fun h => (ref01_Part_k0 hQ _) _ _ _ _ _ h))) (fun h => ret_ok (Q := Q) (e := ref01_Part_enc) h hQ)) (fun h => ret_ok (Q := Q) (e := ref01_Part_enc) h hQ))
def ref01_Part_c : Ans
  | [.pv (.sl .u8 b), .pv (.sc .i at_1), .pv (.sc .i n)], [] => some (some (b.length ≤ 140737488351232 ∧ n ≤ 70368744177664), ref01_Part_enc ((partE b at_1 n, partL b at_1 n)))
  | _, _ => none
theorem ref01_Part_tok : TblOK Tryd.prog theG ref01_Part_T := .nil
theorem ref01_Part_ok : FnOK Tryd.prog theG 52 (unW ref01_Part_c) := by
  refine FnOK.ofC (T := ref01_Part_T) (nt := 43) (np := 0) (nf := false) (hs := ref01_Part_hs) (fn := Tryd.f52) (body := ref01_Part_b) ref01_Part_tok (by kernel_rfl) (by kernel_rfl) (by kernel_rfl) (by kernel_rfl) (c := ref01_Part_c) (lv := ref01_Part_lv) ?_
  intro xs mem p out h hp
  unfold ref01_Part_c at h
  split at h
  · cases h
    obtain ⟨k, hk⟩ := ref01_Part_spec _ _ _ hp
    exact ref01_Part_w _ _ _ hk rfl
  · cases h
end
end Go.Proofs.YtbdajagcinfeeaaDoor.M

namespace Go.Proofs.YtbdajagcinfeeaaDoor.M
open Go
noncomputable section
set_option maxRecDepth 100000
set_option maxHeartbeats 0
noncomputable def ref01_size_T : Tbl := []
noncomputable def ref01_size_C : CfgW := mkC Tryd.prog theG ref01_size_T 17 0 false
def ref01_size_lv : Nat → List Nat := fun i => []
noncomputable abbrev ref01_size_b : Code := Tryd.f60.body.getD .skip
noncomputable abbrev ref01_size_r : List ResultVar := Tryd.f60.results.toList
def ref01_size_hs : List Nat := []

def ref01_size_enc (r : Bool) : CallOut := ⟨.pv (.sc .b r), [], true, []⟩
theorem ref01_size_e (n : Int) (Q : CallOut → Prop) : evalFnP ref01_size_C ref01_size_lv ref01_size_r ref01_size_hs ref01_size_b [.pv (.sc .i n)] [] Q =
    (condP (eqb (decide (n = (1 : Int))) false) (condP (eqb (bif false then true else (decide (n = (2 : Int)))) false) (condP (eqb (bif false then true else (decide (n = (4 : Int)))) false) (Q (ref01_size_enc (bif false then true else (decide (n = (8 : Int)))))) (Q (ref01_size_enc true))) (Q (ref01_size_enc true))) (Q (ref01_size_enc true))) := by kernel_rfl
theorem ref01_size_w (n : Int) {Q : CallOut → Prop} (h : Q (ref01_size_enc (ref01_size n))) : evalFnP ref01_size_C ref01_size_lv ref01_size_r ref01_size_hs ref01_size_b [.pv (.sc .i n)] [] Q :=
  Eq.mpr (ref01_size_e n Q) (have h := Eq.mp (congrArg (fun r => Q (ref01_size_enc r)) (ref01_size_q n)) h; cond_ok2 (Q := fun r => Q (ref01_size_enc r)) h (fun h => cond_ok2 (Q := fun r => Q (ref01_size_enc r)) h (fun h => cond_ok2 (Q := fun r => Q (ref01_size_enc r)) h (fun h => h) (fun h => h)) (fun h => h)) (fun h => h))
def ref01_size_c : Ans
  | [.pv (.sc .i n)], [] => some (none, ref01_size_enc (sizeB n))
  | _, _ => none
theorem ref01_size_tok : TblOK Tryd.prog theG ref01_size_T := .nil
theorem ref01_size_ok : FnOK Tryd.prog theG 60 (unW ref01_size_c) := by
  refine FnOK.ofC (T := ref01_size_T) (nt := 17) (np := 0) (nf := false) (hs := ref01_size_hs) (fn := Tryd.f60) (body := ref01_size_b) ref01_size_tok (by kernel_rfl) (by kernel_rfl) (by kernel_rfl) (by kernel_rfl) (c := ref01_size_c) (lv := ref01_size_lv) ?_
  intro xs mem p out h hp
  unfold ref01_size_c at h
  split at h
  · cases h
    exact ref01_size_w _ (congrArg ref01_size_enc (ref01_size_spec _))
  · cases h
end
end Go.Proofs.YtbdajagcinfeeaaDoor.M

namespace Go.Proofs.YtbdajagcinfeeaaDoor.M
open Go
noncomputable section
set_option maxRecDepth 100000
set_option maxHeartbeats 0
noncomputable def ref01_Get_T : Tbl := [(60, [], ref01_size_c), (52, [], ref01_Part_c)]
noncomputable def ref01_Get_C : CfgW := mkC Tryd.prog theG ref01_Get_T 39 0 false
def ref01_Get_lv : Nat → List Nat := fun i => bif Nat.beq i 0 then [8, 9, 10, 11] else []
noncomputable abbrev ref01_Get_b : Code := Tryd.f53.body.getD .skip
noncomputable abbrev ref01_Get_r : List ResultVar := Tryd.f53.results.toList
def ref01_Get_hs : List Nat := []

def ref01_Get_enc (r : UInt64 × Int) : CallOut := ⟨.tup [.pv (.sc .u64 r.1), .pv (.sc .i r.2)], [], true, []⟩
def ref01_Get_s0 (e : Int) (n : UInt64) (i : Int) (p : List UInt8) : St := ⟨[(8, .o 60000), (9, .pv (.sc .i e)), (10, .pv (.sc .u64 n)), (11, .pv (.sc .i i))], [(60000, .row (.s .u8 p) false)]⟩
theorem ref01_Get_g0 (e : Int) (n : UInt64) (i : Int) (p : List UInt8) (Q : CallOut → Prop) : headRound ref01_Get_C ref01_Get_lv [true, true, true, true, false, true, false] ref01_Get_b (ref01_Get_s0 e n i p) (fnK ref01_Get_C ref01_Get_r ref01_Get_hs Q) =
    (condP (decide ((0 : Int) ≤ i)) ((((0 : Int) ≤ i) ∧ (i < (((List.length p) : Nat) : Int))) ∧ (headP ref01_Get_C ref01_Get_lv [true, true, true, true, false, true, false] ref01_Get_b (ref01_Get_s0 e (((256 : UInt64) * n) + (UInt8.toUInt64 (List.getD p (Int.toNat i) (0 : UInt8)))) (w64 (i - (1 : Int))) p) (fnK ref01_Get_C ref01_Get_r ref01_Get_hs Q))) (Q (ref01_Get_enc (n, e)))) := by kernel_rfl
theorem ref01_Get_k0 {r : UInt64 × Int} {Q : CallOut → Prop} (hQ : Q (ref01_Get_enc r)) : ∀ k : Nat, (∀ (e : Int) (n : UInt64) (i : Int) (p : List UInt8), ref01_Get_h0 k e n i p = some r → headP ref01_Get_C ref01_Get_lv [true, true, true, true, false, true, false] ref01_Get_b (ref01_Get_s0 e n i p) (fnK ref01_Get_C ref01_Get_r ref01_Get_hs Q))
  | 0 => fun _ _ _ _ h => no_ok h
  | k + 1 => fun e n i p h => headP_step (Eq.mpr (ref01_Get_g0 e n i p Q) (have h := (ref01_Get_h0_q k e n i p).symm.trans h; cond_ok h (fun h => ite_ok h fun hc0 h => (ref01_Get_k0 hQ k) _ _ _ _ h) (fun h => ret_ok (Q := Q) (e := ref01_Get_enc) h hQ)))
theorem ref01_Get_e (b : List UInt8) (at_1 : Int) (many : Int) (Q : CallOut → Prop) : evalFnP ref01_Get_C ref01_Get_lv ref01_Get_r ref01_Get_hs ref01_Get_b [.pv (.sl .u8 b), .pv (.sc .i at_1), .pv (.sc .i many)] [] Q =
    (condP (!(sizeB many)) (Q (ref01_Get_enc ((0 : UInt64), (2 : Int)))) ((((List.length b) ≤ (140737488351232 : Nat)) ∧ (many ≤ (70368744177664 : Int))) ∧ (headP ref01_Get_C ref01_Get_lv [true, true, true, true, false, true, false] ref01_Get_b (ref01_Get_s0 (partE b at_1 many) (0 : UInt64) (w64 ((((List.length (partL b at_1 many)) : Nat) : Int) - (1 : Int))) (partL b at_1 many)) (fnK ref01_Get_C ref01_Get_r ref01_Get_hs Q)))) := by kernel_rfl
theorem ref01_Get_w {k : Nat} (b : List UInt8) (at_1 : Int) (many : Int) {r} {Q : CallOut → Prop} (h : ref01_Get k b at_1 many = some r) (hQ : Q (ref01_Get_enc r)) : evalFnP ref01_Get_C ref01_Get_lv ref01_Get_r ref01_Get_hs ref01_Get_b [.pv (.sl .u8 b), .pv (.sc .i at_1), .pv (.sc .i many)] [] Q :=
  Eq.mpr (ref01_Get_e b at_1 many Q) (have h := (ref01_Get_q k b at_1 many).symm.trans h; cond_ok h (fun h => ret_ok (Q := Q) (e := ref01_Get_enc) h hQ) (fun h => ite_ok h fun hc0 h => (ref01_Get_k0 hQ _) _ _ _ _ h))
def ref01_Get_c : Ans
  | [.pv (.sl .u8 b), .pv (.sc .i at_1), .pv (.sc .i many)], [] => some (some (b.length ≤ 140737488351232), ref01_Get_enc ((getN b at_1 many, getE b at_1 many)))
  | _, _ => none
theorem ref01_Get_tok : TblOK Tryd.prog theG ref01_Get_T := .cons ⟨by kernel_rfl, ref01_size_ok⟩ (.cons ⟨by kernel_rfl, ref01_Part_ok⟩ (.nil))
theorem ref01_Get_ok : FnOK Tryd.prog theG 53 (unW ref01_Get_c) := by
  refine FnOK.ofC (T := ref01_Get_T) (nt := 39) (np := 0) (nf := false) (hs := ref01_Get_hs) (fn := Tryd.f53) (body := ref01_Get_b) ref01_Get_tok (by kernel_rfl) (by kernel_rfl) (by kernel_rfl) (by kernel_rfl) (c := ref01_Get_c) (lv := ref01_Get_lv) ?_
  intro xs mem p out h hp
  unfold ref01_Get_c at h
  split at h
  · cases h
    obtain ⟨k, hk⟩ := ref01_Get_spec _ _ _ hp
    exact ref01_Get_w _ _ _ hk rfl
  · cases h
end
end Go.Proofs.YtbdajagcinfeeaaDoor.M
