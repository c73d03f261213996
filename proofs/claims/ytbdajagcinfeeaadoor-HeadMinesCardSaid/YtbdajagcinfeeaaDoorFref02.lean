/- Part of the proofs: what functions of the program do: plain functions, and the walks that show it. No condition. -/
import Derived.KernelRfl
import Derived.Test.YtbdajagcinfeeaaDoorProg
import Derived.Test.YtbdajagcinfeeaaDoorLe
import Derived.Test.YtbdajagcinfeeaaDoorSwords
import Derived.Test.YtbdajagcinfeeaaDoorSshaS
import Derived.Test.YtbdajagcinfeeaaDoorSshaK
set_option linter.unusedVariables false
set_option linter.unusedSimpArgs false
set_option autoImplicit false
namespace Go.Proofs.YtbdajagcinfeeaaDoor.M
open Go
noncomputable section
/-- moneyer/moneyerref02.New -/
def ref02_New  : Vector UInt32 8 × Vector UInt32 64 :=
  ((Vector.setIfInBounds (Vector.setIfInBounds (Vector.setIfInBounds (Vector.setIfInBounds (Vector.setIfInBounds (Vector.setIfInBounds (Vector.setIfInBounds (Vector.setIfInBounds (Vector.replicate (8 : Nat) (0 : UInt32)) (0 : Nat) (1779033703 : UInt32)) (1 : Nat) (3144134277 : UInt32)) (2 : Nat) (1013904242 : UInt32)) (3 : Nat) (2773480762 : UInt32)) (4 : Nat) (1359893119 : UInt32)) (5 : Nat) (2600822924 : UInt32)) (6 : Nat) (528734635 : UInt32)) (7 : Nat) (1541459225 : UInt32)), (Vector.setIfInBounds (Vector.setIfInBounds (Vector.setIfInBounds (Vector.setIfInBounds (Vector.setIfInBounds (Vector.setIfInBounds (Vector.setIfInBounds (Vector.setIfInBounds (Vector.setIfInBounds (Vector.setIfInBounds (Vector.setIfInBounds (Vector.setIfInBounds (Vector.setIfInBounds (Vector.setIfInBounds (Vector.setIfInBounds (Vector.setIfInBounds (Vector.setIfInBounds (Vector.setIfInBounds (Vector.setIfInBounds (Vector.setIfInBounds (Vector.setIfInBounds (Vector.setIfInBounds (Vector.setIfInBounds (Vector.setIfInBounds (Vector.setIfInBounds (Vector.setIfInBounds (Vector.setIfInBounds (Vector.setIfInBounds (Vector.setIfInBounds (Vector.setIfInBounds (Vector.setIfInBounds (Vector.setIfInBounds (Vector.setIfInBounds (Vector.setIfInBounds (Vector.setIfInBounds (Vector.setIfInBounds (Vector.setIfInBounds (Vector.setIfInBounds (Vector.setIfInBounds (Vector.setIfInBounds (Vector.setIfInBounds (Vector.setIfInBounds (Vector.setIfInBounds (Vector.setIfInBounds (Vector.setIfInBounds (Vector.setIfInBounds (Vector.setIfInBounds (Vector.setIfInBounds (Vector.setIfInBounds (Vector.setIfInBounds (Vector.setIfInBounds (Vector.setIfInBounds (Vector.setIfInBounds (Vector.setIfInBounds (Vector.setIfInBounds (Vector.setIfInBounds (Vector.setIfInBounds (Vector.setIfInBounds (Vector.setIfInBounds (Vector.setIfInBounds (Vector.setIfInBounds (Vector.setIfInBounds (Vector.setIfInBounds (Vector.setIfInBounds (Vector.replicate (64 : Nat) (0 : UInt32)) (0 : Nat) (1116352408 : UInt32)) (1 : Nat) (1899447441 : UInt32)) (2 : Nat) (3049323471 : UInt32)) (3 : Nat) (3921009573 : UInt32)) (4 : Nat) (961987163 : UInt32)) (5 : Nat) (1508970993 : UInt32)) (6 : Nat) (2453635748 : UInt32)) (7 : Nat) (2870763221 : UInt32)) (8 : Nat) (3624381080 : UInt32)) (9 : Nat) (310598401 : UInt32)) (10 : Nat) (607225278 : UInt32)) (11 : Nat) (1426881987 : UInt32)) (12 : Nat) (1925078388 : UInt32)) (13 : Nat) (2162078206 : UInt32)) (14 : Nat) (2614888103 : UInt32)) (15 : Nat) (3248222580 : UInt32)) (16 : Nat) (3835390401 : UInt32)) (17 : Nat) (4022224774 : UInt32)) (18 : Nat) (264347078 : UInt32)) (19 : Nat) (604807628 : UInt32)) (20 : Nat) (770255983 : UInt32)) (21 : Nat) (1249150122 : UInt32)) (22 : Nat) (1555081692 : UInt32)) (23 : Nat) (1996064986 : UInt32)) (24 : Nat) (2554220882 : UInt32)) (25 : Nat) (2821834349 : UInt32)) (26 : Nat) (2952996808 : UInt32)) (27 : Nat) (3210313671 : UInt32)) (28 : Nat) (3336571891 : UInt32)) (29 : Nat) (3584528711 : UInt32)) (30 : Nat) (113926993 : UInt32)) (31 : Nat) (338241895 : UInt32)) (32 : Nat) (666307205 : UInt32)) (33 : Nat) (773529912 : UInt32)) (34 : Nat) (1294757372 : UInt32)) (35 : Nat) (1396182291 : UInt32)) (36 : Nat) (1695183700 : UInt32)) (37 : Nat) (1986661051 : UInt32)) (38 : Nat) (2177026350 : UInt32)) (39 : Nat) (2456956037 : UInt32)) (40 : Nat) (2730485921 : UInt32)) (41 : Nat) (2820302411 : UInt32)) (42 : Nat) (3259730800 : UInt32)) (43 : Nat) (3345764771 : UInt32)) (44 : Nat) (3516065817 : UInt32)) (45 : Nat) (3600352804 : UInt32)) (46 : Nat) (4094571909 : UInt32)) (47 : Nat) (275423344 : UInt32)) (48 : Nat) (430227734 : UInt32)) (49 : Nat) (506948616 : UInt32)) (50 : Nat) (659060556 : UInt32)) (51 : Nat) (883997877 : UInt32)) (52 : Nat) (958139571 : UInt32)) (53 : Nat) (1322822218 : UInt32)) (54 : Nat) (1537002063 : UInt32)) (55 : Nat) (1747873779 : UInt32)) (56 : Nat) (1955562222 : UInt32)) (57 : Nat) (2024104815 : UInt32)) (58 : Nat) (2227730452 : UInt32)) (59 : Nat) (2361852424 : UInt32)) (60 : Nat) (2428436474 : UInt32)) (61 : Nat) (2756734187 : UInt32)) (62 : Nat) (3204031479 : UInt32)) (63 : Nat) (3329325298 : UInt32)))
theorem ref02_New_q  : ref02_New  = (((Vector.setIfInBounds (Vector.setIfInBounds (Vector.setIfInBounds (Vector.setIfInBounds (Vector.setIfInBounds (Vector.setIfInBounds (Vector.setIfInBounds (Vector.setIfInBounds (Vector.replicate (8 : Nat) (0 : UInt32)) (0 : Nat) (1779033703 : UInt32)) (1 : Nat) (3144134277 : UInt32)) (2 : Nat) (1013904242 : UInt32)) (3 : Nat) (2773480762 : UInt32)) (4 : Nat) (1359893119 : UInt32)) (5 : Nat) (2600822924 : UInt32)) (6 : Nat) (528734635 : UInt32)) (7 : Nat) (1541459225 : UInt32)), (Vector.setIfInBounds (Vector.setIfInBounds (Vector.setIfInBounds (Vector.setIfInBounds (Vector.setIfInBounds (Vector.setIfInBounds (Vector.setIfInBounds (Vector.setIfInBounds (Vector.setIfInBounds (Vector.setIfInBounds (Vector.setIfInBounds (Vector.setIfInBounds (Vector.setIfInBounds (Vector.setIfInBounds (Vector.setIfInBounds (Vector.setIfInBounds (Vector.setIfInBounds (Vector.setIfInBounds (Vector.setIfInBounds (Vector.setIfInBounds (Vector.setIfInBounds (Vector.setIfInBounds (Vector.setIfInBounds (Vector.setIfInBounds (Vector.setIfInBounds (Vector.setIfInBounds (Vector.setIfInBounds (Vector.setIfInBounds (Vector.setIfInBounds (Vector.setIfInBounds (Vector.setIfInBounds (Vector.setIfInBounds (Vector.setIfInBounds (Vector.setIfInBounds (Vector.setIfInBounds (Vector.setIfInBounds (Vector.setIfInBounds (Vector.setIfInBounds (Vector.setIfInBounds (Vector.setIfInBounds (Vector.setIfInBounds (Vector.setIfInBounds (Vector.setIfInBounds (Vector.setIfInBounds (Vector.setIfInBounds (Vector.setIfInBounds (Vector.setIfInBounds (Vector.setIfInBounds (Vector.setIfInBounds (Vector.setIfInBounds (Vector.setIfInBounds (Vector.setIfInBounds (Vector.setIfInBounds (Vector.setIfInBounds (Vector.setIfInBounds (Vector.setIfInBounds (Vector.setIfInBounds (Vector.setIfInBounds (Vector.setIfInBounds (Vector.setIfInBounds (Vector.setIfInBounds (Vector.setIfInBounds (Vector.setIfInBounds (Vector.setIfInBounds (Vector.replicate (64 : Nat) (0 : UInt32)) (0 : Nat) (1116352408 : UInt32)) (1 : Nat) (1899447441 : UInt32)) (2 : Nat) (3049323471 : UInt32)) (3 : Nat) (3921009573 : UInt32)) (4 : Nat) (961987163 : UInt32)) (5 : Nat) (1508970993 : UInt32)) (6 : Nat) (2453635748 : UInt32)) (7 : Nat) (2870763221 : UInt32)) (8 : Nat) (3624381080 : UInt32)) (9 : Nat) (310598401 : UInt32)) (10 : Nat) (607225278 : UInt32)) (11 : Nat) (1426881987 : UInt32)) (12 : Nat) (1925078388 : UInt32)) (13 : Nat) (2162078206 : UInt32)) (14 : Nat) (2614888103 : UInt32)) (15 : Nat) (3248222580 : UInt32)) (16 : Nat) (3835390401 : UInt32)) (17 : Nat) (4022224774 : UInt32)) (18 : Nat) (264347078 : UInt32)) (19 : Nat) (604807628 : UInt32)) (20 : Nat) (770255983 : UInt32)) (21 : Nat) (1249150122 : UInt32)) (22 : Nat) (1555081692 : UInt32)) (23 : Nat) (1996064986 : UInt32)) (24 : Nat) (2554220882 : UInt32)) (25 : Nat) (2821834349 : UInt32)) (26 : Nat) (2952996808 : UInt32)) (27 : Nat) (3210313671 : UInt32)) (28 : Nat) (3336571891 : UInt32)) (29 : Nat) (3584528711 : UInt32)) (30 : Nat) (113926993 : UInt32)) (31 : Nat) (338241895 : UInt32)) (32 : Nat) (666307205 : UInt32)) (33 : Nat) (773529912 : UInt32)) (34 : Nat) (1294757372 : UInt32)) (35 : Nat) (1396182291 : UInt32)) (36 : Nat) (1695183700 : UInt32)) (37 : Nat) (1986661051 : UInt32)) (38 : Nat) (2177026350 : UInt32)) (39 : Nat) (2456956037 : UInt32)) (40 : Nat) (2730485921 : UInt32)) (41 : Nat) (2820302411 : UInt32)) (42 : Nat) (3259730800 : UInt32)) (43 : Nat) (3345764771 : UInt32)) (44 : Nat) (3516065817 : UInt32)) (45 : Nat) (3600352804 : UInt32)) (46 : Nat) (4094571909 : UInt32)) (47 : Nat) (275423344 : UInt32)) (48 : Nat) (430227734 : UInt32)) (49 : Nat) (506948616 : UInt32)) (50 : Nat) (659060556 : UInt32)) (51 : Nat) (883997877 : UInt32)) (52 : Nat) (958139571 : UInt32)) (53 : Nat) (1322822218 : UInt32)) (54 : Nat) (1537002063 : UInt32)) (55 : Nat) (1747873779 : UInt32)) (56 : Nat) (1955562222 : UInt32)) (57 : Nat) (2024104815 : UInt32)) (58 : Nat) (2227730452 : UInt32)) (59 : Nat) (2361852424 : UInt32)) (60 : Nat) (2428436474 : UInt32)) (61 : Nat) (2756734187 : UInt32)) (62 : Nat) (3204031479 : UInt32)) (63 : Nat) (3329325298 : UInt32)))) := by kernel_rfl
theorem ref02_New_spec : ref02_New = (shaInit, shaK) := by kernel_rfl

end
end Go.Proofs.YtbdajagcinfeeaaDoor.M

namespace Go.Proofs.YtbdajagcinfeeaaDoor.M
open Go
noncomputable section
/-- the loop 0 of moneyer/moneyerref02.List -/
def ref02_List_h0 : Nat → Int → (Vector UInt8 32) → (List UInt8) → Option (List UInt8)
  | 0, _, _, _ => none
  | k + 1, i, h_, out => bif decide (i < (32 : Int)) then (if ((0 : Int) ≤ i) ∧ (i < (32 : Int)) then
        if (((List.length (out ++ ([(List.getD (Vector.toList h_) (Int.toNat i) (0 : UInt8))] : List UInt8))) * (1 : Nat)) ≤ (70368744177664 : Nat)) ∧ ((List.length (out ++ ([(List.getD (Vector.toList h_) (Int.toNat i) (0 : UInt8))] : List UInt8))) ≤ (70368744177664 : Nat)) then
          ref02_List_h0 k (w64 (i + (1 : Int))) h_ (out ++ ([(List.getD (Vector.toList h_) (Int.toNat i) (0 : UInt8))] : List UInt8))
        else none
      else none)
      else (some out)
theorem ref02_List_h0_q (k : Nat) (i : Int) (h_ : Vector UInt8 32) (out : List UInt8) : ref02_List_h0 (k + 1) i h_ out =
  (bif decide (i < (32 : Int)) then (if ((0 : Int) ≤ i) ∧ (i < (32 : Int)) then
        if (((List.length (out ++ ([(List.getD (Vector.toList h_) (Int.toNat i) (0 : UInt8))] : List UInt8))) * (1 : Nat)) ≤ (70368744177664 : Nat)) ∧ ((List.length (out ++ ([(List.getD (Vector.toList h_) (Int.toNat i) (0 : UInt8))] : List UInt8))) ≤ (70368744177664 : Nat)) then
          ref02_List_h0 k (w64 (i + (1 : Int))) h_ (out ++ ([(List.getD (Vector.toList h_) (Int.toNat i) (0 : UInt8))] : List UInt8))
        else none
      else none)
      else (some out)) := by kernel_rfl
/-- moneyer/moneyerref02.List -/
def ref02_List (k : Nat) (h_0 : Vector UInt8 32) : Option (List UInt8) :=
  ref02_List_h0 k (0 : Int) h_0 ([] : List UInt8)
theorem ref02_List_q (k : Nat) (h_0 : Vector UInt8 32) : ref02_List k h_0 = (ref02_List_h0 k (0 : Int) h_0 ([] : List UInt8)) := by kernel_rfl
theorem ref02_List_spec (h : Vector UInt8 32) : ∃ k, ref02_List k h = some (Vector.toList h) := by
  show Ev (fun k => ref02_List k h) _
  refine Ev.same (fun k => ref02_List_q k h) ?_
  have e : Vector.toList h = iterUp (fun i l => l ++ [List.getD (Vector.toList h) i 0]) 0 32 [] := by rw [iterUp_app (fun i => List.getD (Vector.toList h) i 0), range_getD]; rfl
  have hl : ∀ m, (iterUp (fun i l => l ++ [List.getD (Vector.toList h) i 0]) 0 m []).length = m := by
    intro m; rw [iterUp_app (fun i => List.getD (Vector.toList h) i 0)]; simp
  have gen : ∀ m i, i + m = 32 → Ev (fun k => ref02_List_h0 k ((i : Nat) : Int) h (iterUp (fun i l => l ++ [List.getD (Vector.toList h) i 0]) 0 i [])) (Vector.toList h) := by
    intro m
    induction m with
    | zero =>
      intro i hi
      obtain rfl : i = 32 := by omega
      refine Ev.done fun k => ?_
      rw [ref02_List_h0_q, bif_neg (by omega), ← e]
    | succ m ih =>
      intro i hi
      refine Ev.step (fun k => ?_) (ih (i + 1) (by omega))
      have h1 := hl (i + 1)
      rw [iterUp_succ, Nat.zero_add] at h1
      rw [ref02_List_h0_q, bif_pos (by omega), if_pos (by omega), Int.toNat_natCast, h1, if_pos (by omega), w64_id (by omega) (by omega), iterUp_succ, Nat.zero_add]
      rfl
  exact gen 32 0 rfl

end
end Go.Proofs.YtbdajagcinfeeaaDoor.M

namespace Go.Proofs.YtbdajagcinfeeaaDoor.M
open Go
noncomputable section
/-- the loop 2 of moneyer/moneyerref02.Padded -/
def ref02_Padded_h2 : Nat → UInt64 → Int → (List UInt8) → Option (List UInt8)
  | 0, _, _, _ => none
  | k + 1, n, i, out => bif decide (i < (8 : Int)) then (if (((List.length (out ++ ([(UInt64.toUInt8 (shr_u64 n (UInt64.toNat (UInt64.ofInt (w64 ((56 : Int) - (w64 ((8 : Int) * i))))))))] : List UInt8))) * (1 : Nat)) ≤ (70368744177664 : Nat)) ∧ ((List.length (out ++ ([(UInt64.toUInt8 (shr_u64 n (UInt64.toNat (UInt64.ofInt (w64 ((56 : Int) - (w64 ((8 : Int) * i))))))))] : List UInt8))) ≤ (70368744177664 : Nat)) then
        ref02_Padded_h2 k n (w64 (i + (1 : Int))) (out ++ ([(UInt64.toUInt8 (shr_u64 n (UInt64.toNat (UInt64.ofInt (w64 ((56 : Int) - (w64 ((8 : Int) * i))))))))] : List UInt8))
      else none)
      else (some out)
theorem ref02_Padded_h2_q (k : Nat) (n : UInt64) (i : Int) (out : List UInt8) : ref02_Padded_h2 (k + 1) n i out =
  (bif decide (i < (8 : Int)) then (if (((List.length (out ++ ([(UInt64.toUInt8 (shr_u64 n (UInt64.toNat (UInt64.ofInt (w64 ((56 : Int) - (w64 ((8 : Int) * i))))))))] : List UInt8))) * (1 : Nat)) ≤ (70368744177664 : Nat)) ∧ ((List.length (out ++ ([(UInt64.toUInt8 (shr_u64 n (UInt64.toNat (UInt64.ofInt (w64 ((56 : Int) - (w64 ((8 : Int) * i))))))))] : List UInt8))) ≤ (70368744177664 : Nat)) then
        ref02_Padded_h2 k n (w64 (i + (1 : Int))) (out ++ ([(UInt64.toUInt8 (shr_u64 n (UInt64.toNat (UInt64.ofInt (w64 ((56 : Int) - (w64 ((8 : Int) * i))))))))] : List UInt8))
      else none)
      else (some out)) := by kernel_rfl
/-- the loop 0 of moneyer/moneyerref02.Padded -/
def ref02_Padded_h0 : Nat → (List UInt8) → (List UInt8) → Option (List UInt8)
  | 0, _, _ => none
  | k + 1, b, out => bif !(decide ((Int.tmod (((List.length out) : Nat) : Int) (64 : Int)) = (56 : Int))) then (if (((List.length (out ++ ([(0 : UInt8)] : List UInt8))) * (1 : Nat)) ≤ (70368744177664 : Nat)) ∧ ((List.length (out ++ ([(0 : UInt8)] : List UInt8))) ≤ (70368744177664 : Nat)) then
        ref02_Padded_h0 k b (out ++ ([(0 : UInt8)] : List UInt8))
      else none)
      else (ref02_Padded_h2 k ((8 : UInt64) * (UInt64.ofInt (((List.length b) : Nat) : Int))) (0 : Int) out)
theorem ref02_Padded_h0_q (k : Nat) (b : List UInt8) (out : List UInt8) : ref02_Padded_h0 (k + 1) b out =
  (bif !(decide ((Int.tmod (((List.length out) : Nat) : Int) (64 : Int)) = (56 : Int))) then (if (((List.length (out ++ ([(0 : UInt8)] : List UInt8))) * (1 : Nat)) ≤ (70368744177664 : Nat)) ∧ ((List.length (out ++ ([(0 : UInt8)] : List UInt8))) ≤ (70368744177664 : Nat)) then
        ref02_Padded_h0 k b (out ++ ([(0 : UInt8)] : List UInt8))
      else none)
      else (ref02_Padded_h2 k ((8 : UInt64) * (UInt64.ofInt (((List.length b) : Nat) : Int))) (0 : Int) out)) := by kernel_rfl
/-- moneyer/moneyerref02.Padded -/
def ref02_Padded (k : Nat) (b : List UInt8) : Option (List UInt8) :=
  if (((List.length (([] : List UInt8) ++ b)) * (1 : Nat)) ≤ (70368744177664 : Nat)) ∧ ((List.length (([] : List UInt8) ++ b)) ≤ (70368744177664 : Nat)) then
    if (((List.length ((([] : List UInt8) ++ b) ++ ([(128 : UInt8)] : List UInt8))) * (1 : Nat)) ≤ (70368744177664 : Nat)) ∧ ((List.length ((([] : List UInt8) ++ b) ++ ([(128 : UInt8)] : List UInt8))) ≤ (70368744177664 : Nat)) then
      ref02_Padded_h0 k b ((([] : List UInt8) ++ b) ++ ([(128 : UInt8)] : List UInt8))
    else none
  else none
theorem ref02_Padded_q (k : Nat) (b : List UInt8) : ref02_Padded k b = (if (((List.length (([] : List UInt8) ++ b)) * (1 : Nat)) ≤ (70368744177664 : Nat)) ∧ ((List.length (([] : List UInt8) ++ b)) ≤ (70368744177664 : Nat)) then
    if (((List.length ((([] : List UInt8) ++ b) ++ ([(128 : UInt8)] : List UInt8))) * (1 : Nat)) ≤ (70368744177664 : Nat)) ∧ ((List.length ((([] : List UInt8) ++ b) ++ ([(128 : UInt8)] : List UInt8))) ≤ (70368744177664 : Nat)) then
      ref02_Padded_h0 k b ((([] : List UInt8) ++ b) ++ ([(128 : UInt8)] : List UInt8))
    else none
  else none) := by kernel_rfl
theorem ref02_Padded_l2 (b out : List UInt8) (ho : out.length ≤ 1100000000000) : Ev (fun k => ref02_Padded_h2 k ((8 : UInt64) * UInt64.ofInt ((b.length : Nat) : Int)) 0 out) (out ++ shaHigh (shl_u64 (UInt64.ofInt ((b.length : Nat) : Int)) 3) 8) := by
  generalize hn : UInt64.ofInt ((b.length : Nat) : Int) = n
  have e8 : (8 : UInt64) * n = shl_u64 n 3 := by
    apply UInt64.toNat_inj.1
    unfold shl_u64
    rw [UInt64.toNat_mul, UInt64.toNat_ofNat', show (8 : UInt64).toNat = 8 from rfl, show min 3 64 = 3 from rfl, Nat.mul_comm]
  rw [e8]
  generalize shl_u64 n 3 = m
  refine Ev.upI (H := fun k i out => ref02_Padded_h2 k m i out) (lo := 0) (n := 8) (step := fun i l => l ++ [(shr_u64 m (56 - 8 * i)).toUInt8]) (fun i l => l.length = out.length + i) ?_ ?_ 8 0 out (Nat.le_refl 0) rfl rfl ?_
  · intro i s _ _ h
    simp [h]; omega
  · intro i s _ hi h e
    refine Ev.step (fun k => ?_) e
    have a1 : w64 (8 * (i : Int)) = ((8 * i : Nat) : Int) := by rw [w64_id (by omega) (by omega)]; omega
    have a2 : w64 (56 - ((8 * i : Nat) : Int)) = ((56 - 8 * i : Nat) : Int) := by rw [w64_id (by omega) (by omega)]; omega
    have a3 : (UInt64.ofInt ((56 - 8 * i : Nat) : Int)).toNat = 56 - 8 * i := by
      have : i = 0 ∨ i = 1 ∨ i = 2 ∨ i = 3 ∨ i = 4 ∨ i = 5 ∨ i = 6 ∨ i = 7 := by omega
      rcases this with h | h | h | h | h | h | h | h <;> subst h <;> rfl
    rw [ref02_Padded_h2_q, bif_pos (by omega), a1, a2, a3, if_pos (by simp [h]; omega), w64_id (by omega) (by omega)]
  · refine Ev.done fun k => ?_
    rw [ref02_Padded_h2_q, bif_neg (by omega), iterUp_app (fun i => (shr_u64 m (56 - 8 * i)).toUInt8)]
    rfl
theorem ref02_Padded_spec (b : List UInt8) (hb : b.length ≤ 1099511627776) : ∃ k, ref02_Padded k b = some (shaPad b) := by
  show Ev (fun k => ref02_Padded k b) _
  refine Ev.same (g := fun k => ref02_Padded_h0 k b (b ++ [128])) (fun k => by rw [ref02_Padded_q, List.nil_append, if_pos (by omega), if_pos (by simp; omega)]) ?_
  have hz : shaZeros b.length < 64 := Nat.mod_lt _ (by omega)
  have gen : ∀ m i, i + m = shaZeros b.length → Ev (fun k => ref02_Padded_h0 k b (b ++ [128] ++ List.replicate i 0)) (shaPad b) := by
    intro m
    induction m with
    | zero =>
      intro i hi
      obtain rfl : i = shaZeros b.length := by omega
      refine Ev.step (fun k => ?_) (ref02_Padded_l2 b (b ++ [128] ++ List.replicate (shaZeros b.length) 0) (by simp; omega))
      have hl : (b ++ [128] ++ List.replicate (shaZeros b.length) 0).length % 64 = 56 := by simp [shaZeros]; omega
      rw [ref02_Padded_h0_q, decide_eq_true (by
        have : Int.tmod (((b ++ [128] ++ List.replicate (shaZeros b.length) 0).length : Nat) : Int) 64 = (((b ++ [128] ++ List.replicate (shaZeros b.length) 0).length % 64 : Nat) : Int) := rfl
        rw [this, hl]; rfl)]
      rfl
    | succ m ih =>
      intro i hi
      refine Ev.step (fun k => ?_) (ih (i + 1) (by omega))
      have hl : (b ++ [128] ++ List.replicate i 0).length % 64 ≠ 56 := by simp [shaZeros] at hi ⊢; omega
      rw [ref02_Padded_h0_q, decide_eq_false (by
        have : Int.tmod (((b ++ [128] ++ List.replicate i 0).length : Nat) : Int) 64 = (((b ++ [128] ++ List.replicate i 0).length % 64 : Nat) : Int) := rfl
        rw [this]; omega), Bool.not_false, cond_true, if_pos (by simp; omega), List.append_assoc, ← List.replicate_succ']
  have := gen (shaZeros b.length) 0 (by omega)
  simpa using this

end
end Go.Proofs.YtbdajagcinfeeaaDoor.M

namespace Go.Proofs.YtbdajagcinfeeaaDoor.M
open Go
noncomputable section
/-- moneyer/moneyerref02.turn -/
def ref02_turn (x_0 : UInt32) (n : UInt64) : UInt32 :=
  ((shr_u32 x_0 (UInt64.toNat n)) ||| (shl_u32 x_0 (UInt64.toNat ((32 : UInt64) - n))))
theorem ref02_turn_q (x_0 : UInt32) (n : UInt64) : ref02_turn x_0 n = (((shr_u32 x_0 (UInt64.toNat n)) ||| (shl_u32 x_0 (UInt64.toNat ((32 : UInt64) - n))))) := by kernel_rfl

end
end Go.Proofs.YtbdajagcinfeeaaDoor.M

namespace Go.Proofs.YtbdajagcinfeeaaDoor.M
open Go
noncomputable section
/-- the loop 10 of moneyer/moneyerref02.round -/
def ref02_round_h10 : Nat → Int → (Vector UInt32 8) → (Vector UInt32 8) → (Vector UInt32 8) → Option (Vector UInt32 8)
  | 0, _, _, _, _ => none
  | k + 1, i, s, t6, v => bif decide (i < (8 : Int)) then (if ((0 : Int) ≤ i) ∧ (i < (8 : Int)) then
        ref02_round_h10 k (w64 (i + (1 : Int))) s t6 (Vector.setIfInBounds v (Int.toNat i) ((List.getD (Vector.toList v) (Int.toNat i) (0 : UInt32)) + (List.getD (Vector.toList s) (Int.toNat i) (0 : UInt32))))
      else none)
      else (some v)
theorem ref02_round_h10_q (k : Nat) (i : Int) (s : Vector UInt32 8) (t6 : Vector UInt32 8) (v : Vector UInt32 8) : ref02_round_h10 (k + 1) i s t6 v =
  (bif decide (i < (8 : Int)) then (if ((0 : Int) ≤ i) ∧ (i < (8 : Int)) then
        ref02_round_h10 k (w64 (i + (1 : Int))) s t6 (Vector.setIfInBounds v (Int.toNat i) ((List.getD (Vector.toList v) (Int.toNat i) (0 : UInt32)) + (List.getD (Vector.toList s) (Int.toNat i) (0 : UInt32))))
      else none)
      else (some v)) := by kernel_rfl
mutual
/-- the loop 6 of moneyer/moneyerref02.round -/
def ref02_round_h6 : Nat → Int → (Vector UInt32 8) → (Vector UInt32 64) → (Vector UInt32 8) → (Vector UInt32 64) → (Vector UInt32 8) → Option (Vector UInt32 8)
  | 0, _, _, _, _, _, _ => none
  | k + 1, i, s, k_, t6, w, v => bif decide (i < (64 : Int)) then (if ((0 : Int) ≤ i) ∧ (i < (64 : Int)) then
        ref02_round_h8 k i (((((List.getD (Vector.toList v) (7 : Nat) (0 : UInt32)) + (((ref02_turn (List.getD (Vector.toList v) (4 : Nat) (0 : UInt32)) (6 : UInt64)) ^^^ (ref02_turn (List.getD (Vector.toList v) (4 : Nat) (0 : UInt32)) (11 : UInt64))) ^^^ (ref02_turn (List.getD (Vector.toList v) (4 : Nat) (0 : UInt32)) (25 : UInt64)))) + (((List.getD (Vector.toList v) (4 : Nat) (0 : UInt32)) &&& (List.getD (Vector.toList v) (5 : Nat) (0 : UInt32))) ^^^ ((~~~(List.getD (Vector.toList v) (4 : Nat) (0 : UInt32))) &&& (List.getD (Vector.toList v) (6 : Nat) (0 : UInt32))))) + (List.getD (Vector.toList k_) (Int.toNat i) (0 : UInt32))) + (List.getD (Vector.toList w) (Int.toNat i) (0 : UInt32))) ((((ref02_turn (List.getD (Vector.toList v) (0 : Nat) (0 : UInt32)) (2 : UInt64)) ^^^ (ref02_turn (List.getD (Vector.toList v) (0 : Nat) (0 : UInt32)) (13 : UInt64))) ^^^ (ref02_turn (List.getD (Vector.toList v) (0 : Nat) (0 : UInt32)) (22 : UInt64))) + ((((List.getD (Vector.toList v) (0 : Nat) (0 : UInt32)) &&& (List.getD (Vector.toList v) (1 : Nat) (0 : UInt32))) ^^^ ((List.getD (Vector.toList v) (0 : Nat) (0 : UInt32)) &&& (List.getD (Vector.toList v) (2 : Nat) (0 : UInt32)))) ^^^ ((List.getD (Vector.toList v) (1 : Nat) (0 : UInt32)) &&& (List.getD (Vector.toList v) (2 : Nat) (0 : UInt32))))) (7 : Int) s k_ t6 w v
      else none)
      else (ref02_round_h10 k (0 : Int) s t6 v)
/-- the loop 8 of moneyer/moneyerref02.round -/
def ref02_round_h8 : Nat → Int → UInt32 → UInt32 → Int → (Vector UInt32 8) → (Vector UInt32 64) → (Vector UInt32 8) → (Vector UInt32 64) → (Vector UInt32 8) → Option (Vector UInt32 8)
  | 0, _, _, _, _, _, _, _, _, _ => none
  | k + 1, i, t, u, j, s, k_, t6, w, v => bif decide ((0 : Int) < j) then (if ((0 : Int) ≤ (w64 (j - (1 : Int)))) ∧ ((w64 (j - (1 : Int))) < (8 : Int)) then
        if ((0 : Int) ≤ j) ∧ (j < (8 : Int)) then
          ref02_round_h8 k i t u (w64 (j - (1 : Int))) s k_ t6 w (Vector.setIfInBounds v (Int.toNat j) (List.getD (Vector.toList v) (Int.toNat (w64 (j - (1 : Int)))) (0 : UInt32)))
        else none
      else none)
      else (ref02_round_h6 k (w64 (i + (1 : Int))) s k_ t6 w (Vector.setIfInBounds (Vector.setIfInBounds v (4 : Nat) ((List.getD (Vector.toList v) (4 : Nat) (0 : UInt32)) + t)) (0 : Nat) (t + u)))
end
theorem ref02_round_h6_q (k : Nat) (i : Int) (s : Vector UInt32 8) (k_ : Vector UInt32 64) (t6 : Vector UInt32 8) (w : Vector UInt32 64) (v : Vector UInt32 8) : ref02_round_h6 (k + 1) i s k_ t6 w v =
  (bif decide (i < (64 : Int)) then (if ((0 : Int) ≤ i) ∧ (i < (64 : Int)) then
        ref02_round_h8 k i (((((List.getD (Vector.toList v) (7 : Nat) (0 : UInt32)) + (((ref02_turn (List.getD (Vector.toList v) (4 : Nat) (0 : UInt32)) (6 : UInt64)) ^^^ (ref02_turn (List.getD (Vector.toList v) (4 : Nat) (0 : UInt32)) (11 : UInt64))) ^^^ (ref02_turn (List.getD (Vector.toList v) (4 : Nat) (0 : UInt32)) (25 : UInt64)))) + (((List.getD (Vector.toList v) (4 : Nat) (0 : UInt32)) &&& (List.getD (Vector.toList v) (5 : Nat) (0 : UInt32))) ^^^ ((~~~(List.getD (Vector.toList v) (4 : Nat) (0 : UInt32))) &&& (List.getD (Vector.toList v) (6 : Nat) (0 : UInt32))))) + (List.getD (Vector.toList k_) (Int.toNat i) (0 : UInt32))) + (List.getD (Vector.toList w) (Int.toNat i) (0 : UInt32))) ((((ref02_turn (List.getD (Vector.toList v) (0 : Nat) (0 : UInt32)) (2 : UInt64)) ^^^ (ref02_turn (List.getD (Vector.toList v) (0 : Nat) (0 : UInt32)) (13 : UInt64))) ^^^ (ref02_turn (List.getD (Vector.toList v) (0 : Nat) (0 : UInt32)) (22 : UInt64))) + ((((List.getD (Vector.toList v) (0 : Nat) (0 : UInt32)) &&& (List.getD (Vector.toList v) (1 : Nat) (0 : UInt32))) ^^^ ((List.getD (Vector.toList v) (0 : Nat) (0 : UInt32)) &&& (List.getD (Vector.toList v) (2 : Nat) (0 : UInt32)))) ^^^ ((List.getD (Vector.toList v) (1 : Nat) (0 : UInt32)) &&& (List.getD (Vector.toList v) (2 : Nat) (0 : UInt32))))) (7 : Int) s k_ t6 w v
      else none)
      else (ref02_round_h10 k (0 : Int) s t6 v)) := by kernel_rfl
theorem ref02_round_h8_q (k : Nat) (i : Int) (t : UInt32) (u : UInt32) (j : Int) (s : Vector UInt32 8) (k_ : Vector UInt32 64) (t6 : Vector UInt32 8) (w : Vector UInt32 64) (v : Vector UInt32 8) : ref02_round_h8 (k + 1) i t u j s k_ t6 w v =
  (bif decide ((0 : Int) < j) then (if ((0 : Int) ≤ (w64 (j - (1 : Int)))) ∧ ((w64 (j - (1 : Int))) < (8 : Int)) then
        if ((0 : Int) ≤ j) ∧ (j < (8 : Int)) then
          ref02_round_h8 k i t u (w64 (j - (1 : Int))) s k_ t6 w (Vector.setIfInBounds v (Int.toNat j) (List.getD (Vector.toList v) (Int.toNat (w64 (j - (1 : Int)))) (0 : UInt32)))
        else none
      else none)
      else (ref02_round_h6 k (w64 (i + (1 : Int))) s k_ t6 w (Vector.setIfInBounds (Vector.setIfInBounds v (4 : Nat) ((List.getD (Vector.toList v) (4 : Nat) (0 : UInt32)) + t)) (0 : Nat) (t + u)))) := by kernel_rfl
/-- the loop 4 of moneyer/moneyerref02.round -/
def ref02_round_h4 : Nat → Int → (Vector UInt32 8) → (Vector UInt32 64) → (Vector UInt32 8) → (Vector UInt32 64) → Option (Vector UInt32 8)
  | 0, _, _, _, _, _ => none
  | k + 1, i, s, k_, t6, w => bif decide (i < (64 : Int)) then (if ((0 : Int) ≤ (w64 (i - (15 : Int)))) ∧ ((w64 (i - (15 : Int))) < (64 : Int)) then
        if ((0 : Int) ≤ (w64 (i - (2 : Int)))) ∧ ((w64 (i - (2 : Int))) < (64 : Int)) then
          if ((0 : Int) ≤ (w64 (i - (16 : Int)))) ∧ ((w64 (i - (16 : Int))) < (64 : Int)) then
            if ((0 : Int) ≤ (w64 (i - (7 : Int)))) ∧ ((w64 (i - (7 : Int))) < (64 : Int)) then
              if ((0 : Int) ≤ i) ∧ (i < (64 : Int)) then
                ref02_round_h4 k (w64 (i + (1 : Int))) s k_ t6 (Vector.setIfInBounds w (Int.toNat i) ((((List.getD (Vector.toList w) (Int.toNat (w64 (i - (16 : Int)))) (0 : UInt32)) + (((ref02_turn (List.getD (Vector.toList w) (Int.toNat (w64 (i - (15 : Int)))) (0 : UInt32)) (7 : UInt64)) ^^^ (ref02_turn (List.getD (Vector.toList w) (Int.toNat (w64 (i - (15 : Int)))) (0 : UInt32)) (18 : UInt64))) ^^^ (shr_u32 (List.getD (Vector.toList w) (Int.toNat (w64 (i - (15 : Int)))) (0 : UInt32)) (3 : Nat)))) + (List.getD (Vector.toList w) (Int.toNat (w64 (i - (7 : Int)))) (0 : UInt32))) + (((ref02_turn (List.getD (Vector.toList w) (Int.toNat (w64 (i - (2 : Int)))) (0 : UInt32)) (17 : UInt64)) ^^^ (ref02_turn (List.getD (Vector.toList w) (Int.toNat (w64 (i - (2 : Int)))) (0 : UInt32)) (19 : UInt64))) ^^^ (shr_u32 (List.getD (Vector.toList w) (Int.toNat (w64 (i - (2 : Int)))) (0 : UInt32)) (10 : Nat)))))
              else none
            else none
          else none
        else none
      else none)
      else (ref02_round_h6 k (0 : Int) s k_ t6 w s)
theorem ref02_round_h4_q (k : Nat) (i : Int) (s : Vector UInt32 8) (k_ : Vector UInt32 64) (t6 : Vector UInt32 8) (w : Vector UInt32 64) : ref02_round_h4 (k + 1) i s k_ t6 w =
  (bif decide (i < (64 : Int)) then (if ((0 : Int) ≤ (w64 (i - (15 : Int)))) ∧ ((w64 (i - (15 : Int))) < (64 : Int)) then
        if ((0 : Int) ≤ (w64 (i - (2 : Int)))) ∧ ((w64 (i - (2 : Int))) < (64 : Int)) then
          if ((0 : Int) ≤ (w64 (i - (16 : Int)))) ∧ ((w64 (i - (16 : Int))) < (64 : Int)) then
            if ((0 : Int) ≤ (w64 (i - (7 : Int)))) ∧ ((w64 (i - (7 : Int))) < (64 : Int)) then
              if ((0 : Int) ≤ i) ∧ (i < (64 : Int)) then
                ref02_round_h4 k (w64 (i + (1 : Int))) s k_ t6 (Vector.setIfInBounds w (Int.toNat i) ((((List.getD (Vector.toList w) (Int.toNat (w64 (i - (16 : Int)))) (0 : UInt32)) + (((ref02_turn (List.getD (Vector.toList w) (Int.toNat (w64 (i - (15 : Int)))) (0 : UInt32)) (7 : UInt64)) ^^^ (ref02_turn (List.getD (Vector.toList w) (Int.toNat (w64 (i - (15 : Int)))) (0 : UInt32)) (18 : UInt64))) ^^^ (shr_u32 (List.getD (Vector.toList w) (Int.toNat (w64 (i - (15 : Int)))) (0 : UInt32)) (3 : Nat)))) + (List.getD (Vector.toList w) (Int.toNat (w64 (i - (7 : Int)))) (0 : UInt32))) + (((ref02_turn (List.getD (Vector.toList w) (Int.toNat (w64 (i - (2 : Int)))) (0 : UInt32)) (17 : UInt64)) ^^^ (ref02_turn (List.getD (Vector.toList w) (Int.toNat (w64 (i - (2 : Int)))) (0 : UInt32)) (19 : UInt64))) ^^^ (shr_u32 (List.getD (Vector.toList w) (Int.toNat (w64 (i - (2 : Int)))) (0 : UInt32)) (10 : Nat)))))
              else none
            else none
          else none
        else none
      else none)
      else (ref02_round_h6 k (0 : Int) s k_ t6 w s)) := by kernel_rfl
mutual
/-- the loop 0 of moneyer/moneyerref02.round -/
def ref02_round_h0 : Nat → (List UInt8) → Int → (Vector UInt32 8) → (Vector UInt32 64) → (Vector UInt32 8) → (Vector UInt32 64) → Option (Vector UInt32 8)
  | 0, _, _, _, _, _, _ => none
  | k + 1, b, i, s, k_, t6, w => bif decide (i < (16 : Int)) then (ref02_round_h2 k b i (0 : Int) s k_ t6 w)
      else (ref02_round_h4 k (16 : Int) s k_ t6 w)
/-- the loop 2 of moneyer/moneyerref02.round -/
def ref02_round_h2 : Nat → (List UInt8) → Int → Int → (Vector UInt32 8) → (Vector UInt32 64) → (Vector UInt32 8) → (Vector UInt32 64) → Option (Vector UInt32 8)
  | 0, _, _, _, _, _, _, _ => none
  | k + 1, b, i, j, s, k_, t6, w => bif decide (j < (4 : Int)) then (if ((0 : Int) ≤ i) ∧ (i < (64 : Int)) then
        if ((0 : Int) ≤ (w64 ((w64 ((4 : Int) * i)) + j))) ∧ ((w64 ((w64 ((4 : Int) * i)) + j)) < (((List.length b) : Nat) : Int)) then
          ref02_round_h2 k b i (w64 (j + (1 : Int))) s k_ t6 (Vector.setIfInBounds w (Int.toNat i) (((256 : UInt32) * (List.getD (Vector.toList w) (Int.toNat i) (0 : UInt32))) + (UInt8.toUInt32 (List.getD b (Int.toNat (w64 ((w64 ((4 : Int) * i)) + j))) (0 : UInt8)))))
        else none
      else none)
      else (ref02_round_h0 k b (w64 (i + (1 : Int))) s k_ t6 w)
end
theorem ref02_round_h0_q (k : Nat) (b : List UInt8) (i : Int) (s : Vector UInt32 8) (k_ : Vector UInt32 64) (t6 : Vector UInt32 8) (w : Vector UInt32 64) : ref02_round_h0 (k + 1) b i s k_ t6 w =
  (bif decide (i < (16 : Int)) then (ref02_round_h2 k b i (0 : Int) s k_ t6 w)
      else (ref02_round_h4 k (16 : Int) s k_ t6 w)) := by kernel_rfl
theorem ref02_round_h2_q (k : Nat) (b : List UInt8) (i : Int) (j : Int) (s : Vector UInt32 8) (k_ : Vector UInt32 64) (t6 : Vector UInt32 8) (w : Vector UInt32 64) : ref02_round_h2 (k + 1) b i j s k_ t6 w =
  (bif decide (j < (4 : Int)) then (if ((0 : Int) ≤ i) ∧ (i < (64 : Int)) then
        if ((0 : Int) ≤ (w64 ((w64 ((4 : Int) * i)) + j))) ∧ ((w64 ((w64 ((4 : Int) * i)) + j)) < (((List.length b) : Nat) : Int)) then
          ref02_round_h2 k b i (w64 (j + (1 : Int))) s k_ t6 (Vector.setIfInBounds w (Int.toNat i) (((256 : UInt32) * (List.getD (Vector.toList w) (Int.toNat i) (0 : UInt32))) + (UInt8.toUInt32 (List.getD b (Int.toNat (w64 ((w64 ((4 : Int) * i)) + j))) (0 : UInt8)))))
        else none
      else none)
      else (ref02_round_h0 k b (w64 (i + (1 : Int))) s k_ t6 w)) := by kernel_rfl
/-- moneyer/moneyerref02.round -/
def ref02_round (k : Nat) (s : Vector UInt32 8) (b : List UInt8) (k_2 : Vector UInt32 64) : Option (Vector UInt32 8) :=
  ref02_round_h0 k b (0 : Int) s k_2 (Vector.replicate (8 : Nat) (0 : UInt32)) (Vector.replicate (64 : Nat) (0 : UInt32))
theorem ref02_round_q (k : Nat) (s : Vector UInt32 8) (b : List UInt8) (k_2 : Vector UInt32 64) : ref02_round k s b k_2 = (ref02_round_h0 k b (0 : Int) s k_2 (Vector.replicate (8 : Nat) (0 : UInt32)) (Vector.replicate (64 : Nat) (0 : UInt32))) := by kernel_rfl
theorem ref02_turn_eq (x : UInt32) : ref02_turn x 2 = shT x 2 ∧ ref02_turn x 6 = shT x 6 ∧ ref02_turn x 7 = shT x 7 ∧ ref02_turn x 11 = shT x 11 ∧ ref02_turn x 13 = shT x 13 ∧ ref02_turn x 17 = shT x 17 ∧ ref02_turn x 18 = shT x 18 ∧ ref02_turn x 19 = shT x 19 ∧ ref02_turn x 22 = shT x 22 ∧ ref02_turn x 25 = shT x 25 := by
  refine ⟨?_, ?_, ?_, ?_, ?_, ?_, ?_, ?_, ?_, ?_⟩ <;> rfl

theorem shMix_eq (x : UInt32) (y : UInt8) : (256 : UInt32) * x + y.toUInt32 = shMix x y := by
  unfold shMix shl_u32
  apply UInt32.toNat_inj.1
  rw [UInt32.toNat_add, UInt32.toNat_mul, UInt32.toNat_or, UInt32.toNat_ofNat', UInt8.toNat_toUInt32]
  have hy : y.toNat < 2 ^ 8 := y.toNat_lt
  have hx : x.toNat < 2 ^ 32 := x.toNat_lt
  have e : (256 : UInt32).toNat = 256 := by decide
  rw [e]
  rw [show min 8 32 = 8 from rfl]
  have h1 : x.toNat * 2 ^ 8 % 2 ^ 32 = 2 ^ 8 * (x.toNat % 2 ^ 24) := by omega
  rw [h1, ← Nat.two_pow_add_eq_or_of_lt hy]
  omega
theorem u32_right_comm (a b c : UInt32) : a + b + c = a + c + b := by rw [UInt32.add_assoc, UInt32.add_comm b c, ← UInt32.add_assoc]

theorem ref02_round_l10 (s t6 v : Vector UInt32 8) : Ev (fun k => ref02_round_h10 k 0 s t6 v) (shPlus s v) := by
  refine Ev.up (H := fun k i v => ref02_round_h10 k i s t6 v) (lo := 0) (n := 8) (step := fun i (a : Vector UInt32 8) => Vector.setIfInBounds a i (List.getD (Vector.toList a) i 0 + List.getD (Vector.toList s) i 0)) ?_ 8 0 v (Nat.le_refl 0) rfl ?_
  · intro i v _ hi e
    refine Ev.step (fun k => ?_) e
    rw [ref02_round_h10_q, bif_pos (by omega), if_pos (by omega), w64_id (by omega) (by omega), Int.toNat_natCast]
  · refine Ev.done fun k => ?_
    rw [ref02_round_h10_q, bif_neg (by omega), shPlus_loop]
    refine congrArg some (vext 0 fun j hj => ?_)
    rw [show List.getD (Vector.toList (shPlus v s)) j 0 = shG v j + shG s j from shG_ofFn (fun i => shG v i + shG s i) j hj,
      show List.getD (Vector.toList (shPlus s v)) j 0 = shG s j + shG v j from shG_ofFn (fun i => shG s i + shG v i) j hj, UInt32.add_comm]

theorem ref02_round_l8 {r : Vector UInt32 8} (i : Nat) (hi : i < 64) (t u : UInt32) (s t6 : Vector UInt32 8) (kt w : Vector UInt32 64) (v : Vector UInt32 8)
    (e : Ev (fun k => ref02_round_h6 k ((i : Int) + 1) s kt t6 w #v[t + u, shG v 0, shG v 1, shG v 2, shG v 3 + t, shG v 4, shG v 5, shG v 6]) r) : Ev (fun k => ref02_round_h8 k i t u 7 s kt t6 w v) r := by
  have st : ∀ (j : Nat) (v : Vector UInt32 8), 0 < j → j ≤ 7 → Ev (fun k => ref02_round_h8 k i t u ((j : Int) - 1) s kt t6 w (Vector.setIfInBounds v j (List.getD (Vector.toList v) (j - 1) 0))) r → Ev (fun k => ref02_round_h8 k i t u j s kt t6 w v) r := by
    intro j v h0 h7 e
    refine Ev.step (fun k => ?_) e
    have a1 : w64 ((j : Int) - 1) = ((j - 1 : Nat) : Int) := by rw [w64_id (by omega) (by omega)]; omega
    rw [ref02_round_h8_q, bif_pos (by omega), a1, if_pos (by omega), if_pos (by omega)]
    simp only [Int.toNat_natCast]
    rw [show ((j - 1 : Nat) : Int) = (j : Int) - 1 by omega]
  refine st 7 v (by omega) (by omega) (st 6 _ (by omega) (by omega) (st 5 _ (by omega) (by omega) (st 4 _ (by omega) (by omega) (st 3 _ (by omega) (by omega) (st 2 _ (by omega) (by omega) (st 1 _ (by omega) (by omega) ?_))))))
  refine Ev.step (fun k => ?_) e
  rw [ref02_round_h8_q, bif_neg (by omega), w64_id (by omega) (by omega)]
  refine congrArg (fun y => ref02_round_h6 k ((i : Int) + 1) s kt t6 w y) ?_
  refine vext 0 fun j hj => ?_
  have : j = 0 ∨ j = 1 ∨ j = 2 ∨ j = 3 ∨ j = 4 ∨ j = 5 ∨ j = 6 ∨ j = 7 := by omega
  rcases this with h | h | h | h | h | h | h | h <;> subst h <;> simp [vget_set, shG]

theorem ref02_round_l6 (s t6 : Vector UInt32 8) (kt w : Vector UInt32 64) (v : Vector UInt32 8) : Ev (fun k => ref02_round_h6 k 0 s kt t6 w v) (shPlus s (iterUp (shStep kt w) 0 64 v)) := by
  refine Ev.up (H := fun k i v => ref02_round_h6 k i s kt t6 w v) (lo := 0) (n := 64) (step := shStep kt w) ?_ 64 0 v (Nat.le_refl 0) rfl ?_
  · intro i v _ hi e
    refine Ev.step (fun k => ?_) (ref02_round_l8 i hi (shT1 kt w i v) (shU1 v) s t6 kt w v e)
    rw [ref02_round_h6_q, bif_pos (by omega), if_pos (by omega), Int.toNat_natCast]
    have t := fun x => ref02_turn_eq x
    simp only [(t _).1, (t _).2.1, (t _).2.2.1, (t _).2.2.2.1, (t _).2.2.2.2.1, (t _).2.2.2.2.2.1, (t _).2.2.2.2.2.2.1, (t _).2.2.2.2.2.2.2.1, (t _).2.2.2.2.2.2.2.2.1, (t _).2.2.2.2.2.2.2.2.2]
    rfl
  · refine Ev.step (fun k => ?_) (ref02_round_l10 s t6 _)
    rw [ref02_round_h6_q, bif_neg (by omega)]

theorem ref02_round_raw (s : Vector UInt32 8) (b : List UInt8) (kt : Vector UInt32 64) (hb : 64 ≤ b.length) : ∃ k, ref02_round k s b kt = some (shRound kt s (fun i => List.getD b i 0)) := by
  show Ev (fun k => ref02_round k s b kt) _
  refine Ev.same (fun k => ref02_round_q k s b kt) ?_
  let t6 : Vector UInt32 8 := Vector.replicate 8 0
  let B : Nat → UInt8 := fun i => List.getD b i 0
  have h4 : Ev (fun k => ref02_round_h4 k ((16 : Nat) : Int) s kt t6 (iterUp (shFill B) 0 16 (Vector.replicate 64 0))) (shRound kt s B) := by
    have : Ev (fun k => ref02_round_h4 k ((64 : Nat) : Int) s kt t6 (shW B)) (shRound kt s B) := by
      refine Ev.step (fun k => ?_) (ref02_round_l6 s t6 kt (shW B) s)
      rw [ref02_round_h4_q, bif_neg (by omega)]
    refine Ev.up (H := fun k i w => ref02_round_h4 k i s kt t6 w) (lo := 16) (n := 64) (step := fun i w => Vector.setIfInBounds w i (shSched w i)) ?_ 48 16 _ (Nat.le_refl 16) rfl this
    intro i w h16 hi e
    refine Ev.step (fun k => ?_) e
    have a1 : w64 ((i : Int) - 15) = ((i - 15 : Nat) : Int) := by rw [w64_id (by omega) (by omega)]; omega
    have a2 : w64 ((i : Int) - 2) = ((i - 2 : Nat) : Int) := by rw [w64_id (by omega) (by omega)]; omega
    have a3 : w64 ((i : Int) - 16) = ((i - 16 : Nat) : Int) := by rw [w64_id (by omega) (by omega)]; omega
    have a4 : w64 ((i : Int) - 7) = ((i - 7 : Nat) : Int) := by rw [w64_id (by omega) (by omega)]; omega
    rw [ref02_round_h4_q, bif_pos (by omega), a1, a2, a3, a4, if_pos (by omega), if_pos (by omega), if_pos (by omega), if_pos (by omega), if_pos (by omega), w64_id (by omega) (by omega)]
    simp only [Int.toNat_natCast]
    have t := fun x => ref02_turn_eq x
    simp only [(t _).1, (t _).2.1, (t _).2.2.1, (t _).2.2.2.1, (t _).2.2.2.2.1, (t _).2.2.2.2.2.1, (t _).2.2.2.2.2.2.1, (t _).2.2.2.2.2.2.2.1, (t _).2.2.2.2.2.2.2.2.1, (t _).2.2.2.2.2.2.2.2.2]
    refine congrArg (fun y => ref02_round_h4 k ((i : Int) + 1) s kt t6 (Vector.setIfInBounds w i y)) ?_
    unfold shSched
    rw [u32_right_comm (List.getD (Vector.toList w) (i - 16) 0)]
  refine Ev.up (H := fun k i w => ref02_round_h0 k b i s kt t6 w) (lo := 0) (n := 16) (step := shFill B) ?_ 16 0 _ (Nat.le_refl 0) rfl ?_
  · intro i w _ hi e
    refine Ev.step (g := fun k => ref02_round_h2 k b i 0 s kt t6 w) (fun k => ?_) ?_
    · rw [ref02_round_h0_q, bif_pos (by omega)]
    · refine Ev.up (H := fun k j w => ref02_round_h2 k b i j s kt t6 w) (lo := 0) (n := 4) (step := fun j w => Vector.setIfInBounds w i (shMix (List.getD (Vector.toList w) i 0) (B (4 * i + j)))) ?_ 4 0 w (Nat.le_refl 0) rfl ?_
      · intro j w _ hj e
        refine Ev.step (fun k => ?_) e
        have a1 : w64 (4 * (i : Int)) = ((4 * i : Nat) : Int) := by rw [w64_id (by omega) (by omega)]; omega
        have a2 : w64 (((4 * i : Nat) : Int) + (j : Int)) = ((4 * i + j : Nat) : Int) := by rw [w64_id (by omega) (by omega)]; omega
        rw [ref02_round_h2_q, bif_pos (by omega), a1, a2, if_pos (by omega), if_pos (by omega), w64_id (by omega) (by omega)]
        simp only [Int.toNat_natCast, shMix_eq]
        rfl
      · refine Ev.step (fun k => ?_) e
        rw [ref02_round_h2_q, bif_neg (by omega), w64_id (by omega) (by omega)]
        rfl
  · refine Ev.step (fun k => ?_) h4
    rw [ref02_round_h0_q, bif_neg (by omega)]
    rfl
theorem ref02_round_spec (s : Vector UInt32 8) (b : List UInt8) (kt : Vector UInt32 64) (hb : 64 ≤ b.length) : ∃ k, ref02_round k s b kt = some (shaRound kt s (fun i => List.getD b i 0)) := by
  rw [shaRound_eq]; exact ref02_round_raw s b kt hb

end
end Go.Proofs.YtbdajagcinfeeaaDoor.M

namespace Go.Proofs.YtbdajagcinfeeaaDoor.M
open Go
noncomputable section
/-- the loop 2 of (*moneyer/moneyerref02.Hasher).Sum -/
def ref02_hSum_h2 : Nat → Int → (Vector UInt8 32) → (Vector UInt32 8) → (Vector UInt8 32) → Option (Vector UInt8 32)
  | 0, _, _, _, _ => none
  | k + 1, i, t4, s, out => bif decide (i < (32 : Int)) then (if ((0 : Int) ≤ (w64 (Int.tdiv i (4 : Int)))) ∧ ((w64 (Int.tdiv i (4 : Int))) < (8 : Int)) then
        if ((0 : Int) ≤ i) ∧ (i < (32 : Int)) then
          ref02_hSum_h2 k (w64 (i + (1 : Int))) t4 s (Vector.setIfInBounds out (Int.toNat i) (UInt32.toUInt8 (shr_u32 (List.getD (Vector.toList s) (Int.toNat (w64 (Int.tdiv i (4 : Int)))) (0 : UInt32)) (UInt64.toNat (UInt64.ofInt (w64 ((24 : Int) - (w64 ((8 : Int) * (Int.tmod i (4 : Int)))))))))))
        else none
      else none)
      else (some out)
theorem ref02_hSum_h2_q (k : Nat) (i : Int) (t4 : Vector UInt8 32) (s : Vector UInt32 8) (out : Vector UInt8 32) : ref02_hSum_h2 (k + 1) i t4 s out =
  (bif decide (i < (32 : Int)) then (if ((0 : Int) ≤ (w64 (Int.tdiv i (4 : Int)))) ∧ ((w64 (Int.tdiv i (4 : Int))) < (8 : Int)) then
        if ((0 : Int) ≤ i) ∧ (i < (32 : Int)) then
          ref02_hSum_h2 k (w64 (i + (1 : Int))) t4 s (Vector.setIfInBounds out (Int.toNat i) (UInt32.toUInt8 (shr_u32 (List.getD (Vector.toList s) (Int.toNat (w64 (Int.tdiv i (4 : Int)))) (0 : UInt32)) (UInt64.toNat (UInt64.ofInt (w64 ((24 : Int) - (w64 ((8 : Int) * (Int.tmod i (4 : Int)))))))))))
        else none
      else none)
      else (some out)) := by kernel_rfl
/-- the loop 0 of (*moneyer/moneyerref02.Hasher).Sum -/
def ref02_hSum_h0 : Nat → (Vector UInt32 8) → (Vector UInt32 64) → Int → (Vector UInt8 32) → (List UInt8) → (Vector UInt32 8) → Option (Vector UInt8 32)
  | 0, _, _, _, _, _, _ => none
  | k + 1, h_, h1, i, t4, p, s => bif decide (i < (((List.length p) : Nat) : Int)) then (if ((0 : Int) ≤ i) ∧ ((i ≤ (w64 (i + (64 : Int)))) ∧ ((w64 (i + (64 : Int))) ≤ (((List.length p) : Nat) : Int))) then
        if (64 : Nat) ≤ (List.length (List.take ((Int.toNat (w64 (i + (64 : Int)))) - (Int.toNat i)) (List.drop (Int.toNat i) p))) then
          ref02_hSum_h0 k h_ h1 (w64 (i + (64 : Int))) t4 p (shaRound h1 s (fun (z7 : Nat) => (List.getD (List.take ((Int.toNat (w64 (i + (64 : Int)))) - (Int.toNat i)) (List.drop (Int.toNat i) p)) z7 (0 : UInt8))))
        else none
      else none)
      else (ref02_hSum_h2 k (0 : Int) t4 s (Vector.replicate (32 : Nat) (0 : UInt8)))
theorem ref02_hSum_h0_q (k : Nat) (h_ : Vector UInt32 8) (h1 : Vector UInt32 64) (i : Int) (t4 : Vector UInt8 32) (p : List UInt8) (s : Vector UInt32 8) : ref02_hSum_h0 (k + 1) h_ h1 i t4 p s =
  (bif decide (i < (((List.length p) : Nat) : Int)) then (if ((0 : Int) ≤ i) ∧ ((i ≤ (w64 (i + (64 : Int)))) ∧ ((w64 (i + (64 : Int))) ≤ (((List.length p) : Nat) : Int))) then
        if (64 : Nat) ≤ (List.length (List.take ((Int.toNat (w64 (i + (64 : Int)))) - (Int.toNat i)) (List.drop (Int.toNat i) p))) then
          ref02_hSum_h0 k h_ h1 (w64 (i + (64 : Int))) t4 p (shaRound h1 s (fun (z7 : Nat) => (List.getD (List.take ((Int.toNat (w64 (i + (64 : Int)))) - (Int.toNat i)) (List.drop (Int.toNat i) p)) z7 (0 : UInt8))))
        else none
      else none)
      else (ref02_hSum_h2 k (0 : Int) t4 s (Vector.replicate (32 : Nat) (0 : UInt8)))) := by kernel_rfl
/-- (*moneyer/moneyerref02.Hasher).Sum -/
def ref02_hSum (k : Nat) (h_0_begin : Vector UInt32 8) (h_0_k : Vector UInt32 64) (b : List UInt8) : Option (Vector UInt8 32) :=
  if (List.length b) ≤ (1099511627776 : Nat) then
    ref02_hSum_h0 k h_0_begin h_0_k (0 : Int) (Vector.replicate (32 : Nat) (0 : UInt8)) (shaPad b) h_0_begin
  else none
theorem ref02_hSum_q (k : Nat) (h_0_begin : Vector UInt32 8) (h_0_k : Vector UInt32 64) (b : List UInt8) : ref02_hSum k h_0_begin h_0_k b = (if (List.length b) ≤ (1099511627776 : Nat) then
    ref02_hSum_h0 k h_0_begin h_0_k (0 : Int) (Vector.replicate (32 : Nat) (0 : UInt8)) (shaPad b) h_0_begin
  else none) := by kernel_rfl
theorem ref02_hSum_l2 (s : Vector UInt32 8) (t4 out : Vector UInt8 32) : Ev (fun k => ref02_hSum_h2 k 0 t4 s out) (shaOut s) := by
  refine Ev.up (H := fun k i out => ref02_hSum_h2 k i t4 s out) (lo := 0) (n := 32) (step := fun i out => Vector.setIfInBounds out i (shaByte s i)) ?_ 32 0 out (Nat.le_refl 0) rfl ?_
  · intro i out _ hi e
    refine Ev.step (fun k => ?_) e
    have a1 : Int.tdiv (i : Int) 4 = ((i / 4 : Nat) : Int) := rfl
    have a2 : Int.tmod (i : Int) 4 = ((i % 4 : Nat) : Int) := rfl
    have a3 : w64 (((i / 4 : Nat) : Int)) = ((i / 4 : Nat) : Int) := w64_id (by omega) (by omega)
    have a4 : w64 (8 * ((i % 4 : Nat) : Int)) = ((8 * (i % 4) : Nat) : Int) := by rw [w64_id (by omega) (by omega)]; omega
    have a5 : w64 (24 - ((8 * (i % 4) : Nat) : Int)) = ((24 - 8 * (i % 4) : Nat) : Int) := by rw [w64_id (by omega) (by omega)]; omega
    have a6 : (UInt64.ofInt ((24 - 8 * (i % 4) : Nat) : Int)).toNat = 24 - 8 * (i % 4) := by
      have : i % 4 = 0 ∨ i % 4 = 1 ∨ i % 4 = 2 ∨ i % 4 = 3 := by omega
      rcases this with h | h | h | h <;> rw [h] <;> rfl
    rw [ref02_hSum_h2_q, bif_pos (by omega), a1, a2, a3, a4, a5, a6, if_pos (by omega), if_pos (by omega), w64_id (by omega) (by omega)]
    rfl
  · refine Ev.done fun k => ?_
    rw [ref02_hSum_h2_q, bif_neg (by omega), iterUp_fill (fun i => shaByte s i)]
    rfl
theorem ref02_hSum_spec (hb : Vector UInt32 8) (hk : Vector UInt32 64) (b : List UInt8) (hp : b.length ≤ 1099511627776 ∧ hb = shaInit ∧ hk = shaK) : ∃ k, ref02_hSum k hb hk b = some (shaSum b) := by
  obtain ⟨h1, rfl, rfl⟩ := hp
  show Ev (fun k => ref02_hSum k shaInit shaK b) _
  refine Ev.same (fun k => by rw [ref02_hSum_q, if_pos h1]) ?_
  obtain ⟨p1, p2, p3⟩ := shaPad_len b
  have gen : ∀ n s, n * 64 ≤ (shaPad b).length → s = shaFold (shaPad b) n → Ev (fun k => ref02_hSum_h0 k shaInit shaK ((64 * n : Nat) : Int) (Vector.replicate 32 0) (shaPad b) s) (shaSum b) := by
    intro n s hn hs
    generalize hm : (shaPad b).length / 64 - n = m
    induction m generalizing n s with
    | zero =>
      have h1 : n = (shaPad b).length / 64 := by omega
      have h2 : shaSum b = shaOut s := by rw [shaSum_eq, ← h1, ← hs]
      rw [h2]
      refine Ev.step (fun k => ?_) (ref02_hSum_l2 s (Vector.replicate 32 0) (Vector.replicate 32 0))
      rw [ref02_hSum_h0_q, bif_neg (by omega)]
    | succ m ih =>
      refine Ev.step (fun k => ?_) (ih (n + 1) (shaFold (shaPad b) (n + 1)) (by omega) rfl (by omega))
      have a1 : w64 (((64 * n : Nat) : Int) + 64) = ((64 * (n + 1) : Nat) : Int) := by rw [w64_id (by omega) (by omega)]; omega
      rw [ref02_hSum_h0_q, bif_pos (by omega), a1, if_pos (by omega)]
      subst hs
      simp only [Int.toNat_natCast]
      rw [if_pos (by simp; omega)]
      refine congrArg (fun y => ref02_hSum_h0 k shaInit shaK ((64 * (n + 1) : Nat) : Int) (Vector.replicate 32 0) (shaPad b) y) ?_
      refine shaRound_congr fun j hj => ?_
      have : j < 64 * (n + 1) - 64 * n := by omega
      simp only [List.getD, List.getElem?_take, if_pos this, List.getElem?_drop]
  exact gen 0 _ (by omega) rfl

end
end Go.Proofs.YtbdajagcinfeeaaDoor.M

namespace Go.Proofs.YtbdajagcinfeeaaDoor.M
open Go
noncomputable section
/-- (*moneyer/moneyerref02.Hasher).Twice -/
def ref02_hTwice (h_0_begin : Vector UInt32 8) (h_0_k : Vector UInt32 64) (b : List UInt8) : Option (Vector UInt8 32) :=
  if ((List.length b) ≤ (1099511627776 : Nat)) ∧ ((h_0_begin = shaInit) ∧ (h_0_k = shaK)) then
    if ((List.length (Vector.toList (shaSum b))) ≤ (1099511627776 : Nat)) ∧ ((h_0_begin = shaInit) ∧ (h_0_k = shaK)) then
      some (shaSum (Vector.toList (shaSum b)))
    else none
  else none
theorem ref02_hTwice_q (h_0_begin : Vector UInt32 8) (h_0_k : Vector UInt32 64) (b : List UInt8) : ref02_hTwice h_0_begin h_0_k b = (if ((List.length b) ≤ (1099511627776 : Nat)) ∧ ((h_0_begin = shaInit) ∧ (h_0_k = shaK)) then
    if ((List.length (Vector.toList (shaSum b))) ≤ (1099511627776 : Nat)) ∧ ((h_0_begin = shaInit) ∧ (h_0_k = shaK)) then
      some (shaSum (Vector.toList (shaSum b)))
    else none
  else none) := by kernel_rfl
theorem ref02_hTwice_spec (hb : Vector UInt32 8) (hk : Vector UInt32 64) (b : List UInt8) (hp : b.length ≤ 1099511627776 ∧ hb = shaInit ∧ hk = shaK) : ref02_hTwice hb hk b = some (shaSum (Vector.toList (shaSum b))) := by
  rw [ref02_hTwice_q, if_pos hp, if_pos ⟨by simp, hp.2⟩]

end
end Go.Proofs.YtbdajagcinfeeaaDoor.M

namespace Go.Proofs.YtbdajagcinfeeaaDoor.M
open Go
noncomputable section
set_option maxRecDepth 100000
set_option maxHeartbeats 0
noncomputable def ref02_New_T : Tbl := []
noncomputable def ref02_New_C : CfgW := mkC Tryd.prog theG ref02_New_T 5 0 false
def ref02_New_lv : Nat → List Nat := fun i => []
noncomputable abbrev ref02_New_b : Code := Tryd.f40.body.getD .skip
noncomputable abbrev ref02_New_r : List ResultVar := Tryd.f40.results.toList
def ref02_New_hs : List Nat := []

def ref02_New_enc (r : Vector UInt32 8 × Vector UInt32 64) : CallOut := ⟨.p 60000 [], [(60000, .box (.pv (.st [.arr .u32 8 r.1, .arr .u32 64 r.2])))], true, []⟩
theorem ref02_New_e  (Q : CallOut → Prop) : evalFnP ref02_New_C ref02_New_lv ref02_New_r ref02_New_hs ref02_New_b [] [] Q =
    (Q (ref02_New_enc ((Vector.setIfInBounds (Vector.setIfInBounds (Vector.setIfInBounds (Vector.setIfInBounds (Vector.setIfInBounds (Vector.setIfInBounds (Vector.setIfInBounds (Vector.setIfInBounds (Vector.replicate (8 : Nat) (0 : UInt32)) (0 : Nat) (1779033703 : UInt32)) (1 : Nat) (3144134277 : UInt32)) (2 : Nat) (1013904242 : UInt32)) (3 : Nat) (2773480762 : UInt32)) (4 : Nat) (1359893119 : UInt32)) (5 : Nat) (2600822924 : UInt32)) (6 : Nat) (528734635 : UInt32)) (7 : Nat) (1541459225 : UInt32)), (Vector.setIfInBounds (Vector.setIfInBounds (Vector.setIfInBounds (Vector.setIfInBounds (Vector.setIfInBounds (Vector.setIfInBounds (Vector.setIfInBounds (Vector.setIfInBounds (Vector.setIfInBounds (Vector.setIfInBounds (Vector.setIfInBounds (Vector.setIfInBounds (Vector.setIfInBounds (Vector.setIfInBounds (Vector.setIfInBounds (Vector.setIfInBounds (Vector.setIfInBounds (Vector.setIfInBounds (Vector.setIfInBounds (Vector.setIfInBounds (Vector.setIfInBounds (Vector.setIfInBounds (Vector.setIfInBounds (Vector.setIfInBounds (Vector.setIfInBounds (Vector.setIfInBounds (Vector.setIfInBounds (Vector.setIfInBounds (Vector.setIfInBounds (Vector.setIfInBounds (Vector.setIfInBounds (Vector.setIfInBounds (Vector.setIfInBounds (Vector.setIfInBounds (Vector.setIfInBounds (Vector.setIfInBounds (Vector.setIfInBounds (Vector.setIfInBounds (Vector.setIfInBounds (Vector.setIfInBounds (Vector.setIfInBounds (Vector.setIfInBounds (Vector.setIfInBounds (Vector.setIfInBounds (Vector.setIfInBounds (Vector.setIfInBounds (Vector.setIfInBounds (Vector.setIfInBounds (Vector.setIfInBounds (Vector.setIfInBounds (Vector.setIfInBounds (Vector.setIfInBounds (Vector.setIfInBounds (Vector.setIfInBounds (Vector.setIfInBounds (Vector.setIfInBounds (Vector.setIfInBounds (Vector.setIfInBounds (Vector.setIfInBounds (Vector.setIfInBounds (Vector.setIfInBounds (Vector.setIfInBounds (Vector.setIfInBounds (Vector.setIfInBounds (Vector.replicate (64 : Nat) (0 : UInt32)) (0 : Nat) (1116352408 : UInt32)) (1 : Nat) (1899447441 : UInt32)) (2 : Nat) (3049323471 : UInt32)) (3 : Nat) (3921009573 : UInt32)) (4 : Nat) (961987163 : UInt32)) (5 : Nat) (1508970993 : UInt32)) (6 : Nat) (2453635748 : UInt32)) (7 : Nat) (2870763221 : UInt32)) (8 : Nat) (3624381080 : UInt32)) (9 : Nat) (310598401 : UInt32)) (10 : Nat) (607225278 : UInt32)) (11 : Nat) (1426881987 : UInt32)) (12 : Nat) (1925078388 : UInt32)) (13 : Nat) (2162078206 : UInt32)) (14 : Nat) (2614888103 : UInt32)) (15 : Nat) (3248222580 : UInt32)) (16 : Nat) (3835390401 : UInt32)) (17 : Nat) (4022224774 : UInt32)) (18 : Nat) (264347078 : UInt32)) (19 : Nat) (604807628 : UInt32)) (20 : Nat) (770255983 : UInt32)) (21 : Nat) (1249150122 : UInt32)) (22 : Nat) (1555081692 : UInt32)) (23 : Nat) (1996064986 : UInt32)) (24 : Nat) (2554220882 : UInt32)) (25 : Nat) (2821834349 : UInt32)) (26 : Nat) (2952996808 : UInt32)) (27 : Nat) (3210313671 : UInt32)) (28 : Nat) (3336571891 : UInt32)) (29 : Nat) (3584528711 : UInt32)) (30 : Nat) (113926993 : UInt32)) (31 : Nat) (338241895 : UInt32)) (32 : Nat) (666307205 : UInt32)) (33 : Nat) (773529912 : UInt32)) (34 : Nat) (1294757372 : UInt32)) (35 : Nat) (1396182291 : UInt32)) (36 : Nat) (1695183700 : UInt32)) (37 : Nat) (1986661051 : UInt32)) (38 : Nat) (2177026350 : UInt32)) (39 : Nat) (2456956037 : UInt32)) (40 : Nat) (2730485921 : UInt32)) (41 : Nat) (2820302411 : UInt32)) (42 : Nat) (3259730800 : UInt32)) (43 : Nat) (3345764771 : UInt32)) (44 : Nat) (3516065817 : UInt32)) (45 : Nat) (3600352804 : UInt32)) (46 : Nat) (4094571909 : UInt32)) (47 : Nat) (275423344 : UInt32)) (48 : Nat) (430227734 : UInt32)) (49 : Nat) (506948616 : UInt32)) (50 : Nat) (659060556 : UInt32)) (51 : Nat) (883997877 : UInt32)) (52 : Nat) (958139571 : UInt32)) (53 : Nat) (1322822218 : UInt32)) (54 : Nat) (1537002063 : UInt32)) (55 : Nat) (1747873779 : UInt32)) (56 : Nat) (1955562222 : UInt32)) (57 : Nat) (2024104815 : UInt32)) (58 : Nat) (2227730452 : UInt32)) (59 : Nat) (2361852424 : UInt32)) (60 : Nat) (2428436474 : UInt32)) (61 : Nat) (2756734187 : UInt32)) (62 : Nat) (3204031479 : UInt32)) (63 : Nat) (3329325298 : UInt32))))) := by kernel_rfl
theorem ref02_New_w  {Q : CallOut → Prop} (h : Q (ref02_New_enc (ref02_New ))) : evalFnP ref02_New_C ref02_New_lv ref02_New_r ref02_New_hs ref02_New_b [] [] Q :=
  Eq.mpr (ref02_New_e  Q) (have h := Eq.mp (congrArg (fun r => Q (ref02_New_enc r)) (ref02_New_q )) h; h)
def ref02_New_c : Ans
  | [], [] => some (none, ref02_New_enc ((shaInit, shaK)))
  | _, _ => none
theorem ref02_New_tok : TblOK Tryd.prog theG ref02_New_T := .nil
theorem ref02_New_ok : FnOK Tryd.prog theG 40 (unW ref02_New_c) := by
  refine FnOK.ofC (T := ref02_New_T) (nt := 5) (np := 0) (mv := []) (nf := false) (hs := ref02_New_hs) (fn := Tryd.f40) (body := ref02_New_b) ref02_New_tok (by kernel_rfl) (by kernel_rfl) (by kernel_rfl) (by kernel_rfl) (c := ref02_New_c) (lv := ref02_New_lv) ?_
  intro xs mem p out h hp
  unfold ref02_New_c at h
  split at h
  · cases h
    exact ref02_New_w  (congrArg ref02_New_enc (ref02_New_spec))
  · cases h
end
end Go.Proofs.YtbdajagcinfeeaaDoor.M

namespace Go.Proofs.YtbdajagcinfeeaaDoor.M
open Go
noncomputable section
set_option maxRecDepth 100000
set_option maxHeartbeats 0
noncomputable def ref02_List_T : Tbl := []
noncomputable def ref02_List_C : CfgW := mkC Tryd.prog theG ref02_List_T 16 0 false
def ref02_List_lv : Nat → List Nat := fun i => bif Nat.beq i 0 then [1, 3, 4] else []
noncomputable abbrev ref02_List_b : Code := Tryd.f42.body.getD .skip
noncomputable abbrev ref02_List_r : List ResultVar := Tryd.f42.results.toList
def ref02_List_hs : List Nat := []

def ref02_List_enc (r : List UInt8) : CallOut := ⟨.o 60000, [(60000, .row (.s .u8 r) false)], true, []⟩
def ref02_List_s0 (i : Int) (h_ : Vector UInt8 32) (out : List UInt8) : St := ⟨[(1, .p 60000 []), (3, .o 60001), (4, .pv (.sc .i i))], [(60000, .box (.pv (.arr .u8 32 h_))), (60001, .row (.s .u8 out) false)]⟩
theorem ref02_List_g0 (i : Int) (h_ : Vector UInt8 32) (out : List UInt8) (Q : CallOut → Prop) : headRound ref02_List_C ref02_List_lv [true, true, false, true, false] ref02_List_b (ref02_List_s0 i h_ out) (fnK ref02_List_C ref02_List_r ref02_List_hs Q) =
    (condP (decide (i < (32 : Int))) ((((0 : Int) ≤ i) ∧ (i < (32 : Int))) ∧ (((((List.length (out ++ ([(List.getD (Vector.toList h_) (Int.toNat i) (0 : UInt8))] : List UInt8))) * (1 : Nat)) ≤ (70368744177664 : Nat)) ∧ ((List.length (out ++ ([(List.getD (Vector.toList h_) (Int.toNat i) (0 : UInt8))] : List UInt8))) ≤ (70368744177664 : Nat))) ∧ (headP ref02_List_C ref02_List_lv [true, true, false, true, false] ref02_List_b (ref02_List_s0 (w64 (i + (1 : Int))) h_ (out ++ ([(List.getD (Vector.toList h_) (Int.toNat i) (0 : UInt8))] : List UInt8))) (fnK ref02_List_C ref02_List_r ref02_List_hs Q)))) (Q (ref02_List_enc out))) := by kernel_rfl
theorem ref02_List_k0 {r : List UInt8} {Q : CallOut → Prop} (hQ : Q (ref02_List_enc r)) : ∀ k : Nat, (∀ (i : Int) (h_ : Vector UInt8 32) (out : List UInt8), ref02_List_h0 k i h_ out = some r → headP ref02_List_C ref02_List_lv [true, true, false, true, false] ref02_List_b (ref02_List_s0 i h_ out) (fnK ref02_List_C ref02_List_r ref02_List_hs Q))
  | 0 => fun _ _ _ h => no_ok h
  | k + 1 => fun i h_ out h => headP_step (Eq.mpr (ref02_List_g0 i h_ out Q) (have h := (ref02_List_h0_q k i h_ out).symm.trans h; cond_ok h (fun h => ite_ok h fun hc0 h => ite_ok h fun hc1 h => (ref02_List_k0 hQ k) _ _ _ h) (fun h => ret_ok (Q := Q) (e := ref02_List_enc) h hQ)))
theorem ref02_List_e (h_0 : Vector UInt8 32) (Q : CallOut → Prop) : evalFnP ref02_List_C ref02_List_lv ref02_List_r ref02_List_hs ref02_List_b [.pv (.arr .u8 32 h_0)] [] Q =
    (headP ref02_List_C ref02_List_lv [true, true, false, true, false] ref02_List_b (ref02_List_s0 (0 : Int) h_0 ([] : List UInt8)) (fnK ref02_List_C ref02_List_r ref02_List_hs Q)) := by kernel_rfl
theorem ref02_List_w {k : Nat} (h_0 : Vector UInt8 32) {r} {Q : CallOut → Prop} (h : ref02_List k h_0 = some r) (hQ : Q (ref02_List_enc r)) : evalFnP ref02_List_C ref02_List_lv ref02_List_r ref02_List_hs ref02_List_b [.pv (.arr .u8 32 h_0)] [] Q :=
  Eq.mpr (ref02_List_e h_0 Q) (have h := (ref02_List_q k h_0).symm.trans h; (ref02_List_k0 hQ _) _ _ _ h)
def ref02_List_c : Ans
  | [.pv (.arr .u8 32 h_0)], [] => some (none, ref02_List_enc (Vector.toList h_0))
  | _, _ => none
theorem ref02_List_tok : TblOK Tryd.prog theG ref02_List_T := .nil
theorem ref02_List_ok : FnOK Tryd.prog theG 42 (unW ref02_List_c) := by
  refine FnOK.ofC (T := ref02_List_T) (nt := 16) (np := 0) (mv := []) (nf := false) (hs := ref02_List_hs) (fn := Tryd.f42) (body := ref02_List_b) ref02_List_tok (by kernel_rfl) (by kernel_rfl) (by kernel_rfl) (by kernel_rfl) (c := ref02_List_c) (lv := ref02_List_lv) ?_
  intro xs mem p out h hp
  unfold ref02_List_c at h
  split at h
  · cases h
    obtain ⟨k, hk⟩ := ref02_List_spec _
    exact ref02_List_w _ hk rfl
  · cases h
end
end Go.Proofs.YtbdajagcinfeeaaDoor.M

namespace Go.Proofs.YtbdajagcinfeeaaDoor.M
open Go
noncomputable section
set_option maxRecDepth 100000
set_option maxHeartbeats 0
noncomputable def ref02_Padded_T : Tbl := []
noncomputable def ref02_Padded_C : CfgW := mkC Tryd.prog theG ref02_Padded_T 38 0 false
def ref02_Padded_lv : Nat → List Nat := fun i => bif Nat.beq i 2 then [3, 4, 5] else bif Nat.beq i 0 then [0, 3] else []
noncomputable abbrev ref02_Padded_b : Code := Tryd.f77.body.getD .skip
noncomputable abbrev ref02_Padded_r : List ResultVar := Tryd.f77.results.toList
def ref02_Padded_hs : List Nat := []

def ref02_Padded_enc (r : List UInt8) : CallOut := ⟨.o 60000, [(60000, .row (.s .u8 r) false)], true, []⟩
def ref02_Padded_s0 (b : List UInt8) (out : List UInt8) : St := ⟨[(0, .pv (.sl .u8 b)), (3, .o 60000)], [(60000, .row (.s .u8 out) false)]⟩
def ref02_Padded_s2 (n : UInt64) (i : Int) (out : List UInt8) : St := ⟨[(3, .o 60000), (4, .pv (.sc .u64 n)), (5, .pv (.sc .i i))], [(60000, .row (.s .u8 out) false)]⟩
theorem ref02_Padded_g0 (b : List UInt8) (out : List UInt8) (Q : CallOut → Prop) : headRound ref02_Padded_C ref02_Padded_lv [true, true, true, true, false, false] ref02_Padded_b (ref02_Padded_s0 b out) (fnK ref02_Padded_C ref02_Padded_r ref02_Padded_hs Q) =
    (((64 : Int) ≠ (0 : Int)) ∧ (condP (!(decide ((Int.tmod (((List.length out) : Nat) : Int) (64 : Int)) = (56 : Int)))) (((((List.length (out ++ ([(0 : UInt8)] : List UInt8))) * (1 : Nat)) ≤ (70368744177664 : Nat)) ∧ ((List.length (out ++ ([(0 : UInt8)] : List UInt8))) ≤ (70368744177664 : Nat))) ∧ (headP ref02_Padded_C ref02_Padded_lv [true, true, true, true, false, false] ref02_Padded_b (ref02_Padded_s0 b (out ++ ([(0 : UInt8)] : List UInt8))) (fnK ref02_Padded_C ref02_Padded_r ref02_Padded_hs Q))) (headP ref02_Padded_C ref02_Padded_lv [true, true, true, true, true, true, false, true, false] ref02_Padded_b (ref02_Padded_s2 ((8 : UInt64) * (UInt64.ofInt (((List.length b) : Nat) : Int))) (0 : Int) out) (fnK ref02_Padded_C ref02_Padded_r ref02_Padded_hs Q)))) := by kernel_rfl
theorem ref02_Padded_g2 (n : UInt64) (i : Int) (out : List UInt8) (Q : CallOut → Prop) : headRound ref02_Padded_C ref02_Padded_lv [true, true, true, true, true, true, false, true, false] ref02_Padded_b (ref02_Padded_s2 n i out) (fnK ref02_Padded_C ref02_Padded_r ref02_Padded_hs Q) =
    (condP (decide (i < (8 : Int))) (((((List.length (out ++ ([(UInt64.toUInt8 (shr_u64 n (UInt64.toNat (UInt64.ofInt (w64 ((56 : Int) - (w64 ((8 : Int) * i))))))))] : List UInt8))) * (1 : Nat)) ≤ (70368744177664 : Nat)) ∧ ((List.length (out ++ ([(UInt64.toUInt8 (shr_u64 n (UInt64.toNat (UInt64.ofInt (w64 ((56 : Int) - (w64 ((8 : Int) * i))))))))] : List UInt8))) ≤ (70368744177664 : Nat))) ∧ (headP ref02_Padded_C ref02_Padded_lv [true, true, true, true, true, true, false, true, false] ref02_Padded_b (ref02_Padded_s2 n (w64 (i + (1 : Int))) (out ++ ([(UInt64.toUInt8 (shr_u64 n (UInt64.toNat (UInt64.ofInt (w64 ((56 : Int) - (w64 ((8 : Int) * i))))))))] : List UInt8))) (fnK ref02_Padded_C ref02_Padded_r ref02_Padded_hs Q))) (Q (ref02_Padded_enc out))) := by kernel_rfl
theorem ref02_Padded_k2 {r : List UInt8} {Q : CallOut → Prop} (hQ : Q (ref02_Padded_enc r)) : ∀ k : Nat, (∀ (n : UInt64) (i : Int) (out : List UInt8), ref02_Padded_h2 k n i out = some r → headP ref02_Padded_C ref02_Padded_lv [true, true, true, true, true, true, false, true, false] ref02_Padded_b (ref02_Padded_s2 n i out) (fnK ref02_Padded_C ref02_Padded_r ref02_Padded_hs Q))
  | 0 => fun _ _ _ h => no_ok h
  | k + 1 => fun n i out h => headP_step (Eq.mpr (ref02_Padded_g2 n i out Q) (have h := (ref02_Padded_h2_q k n i out).symm.trans h; cond_ok h (fun h => ite_ok h fun hc0 h => (ref02_Padded_k2 hQ k) _ _ _ h) (fun h => ret_ok (Q := Q) (e := ref02_Padded_enc) h hQ)))
theorem ref02_Padded_k0 {r : List UInt8} {Q : CallOut → Prop} (hQ : Q (ref02_Padded_enc r)) : ∀ k : Nat, (∀ (b : List UInt8) (out : List UInt8), ref02_Padded_h0 k b out = some r → headP ref02_Padded_C ref02_Padded_lv [true, true, true, true, false, false] ref02_Padded_b (ref02_Padded_s0 b out) (fnK ref02_Padded_C ref02_Padded_r ref02_Padded_hs Q))
  | 0 => fun _ _ h => no_ok h
  | k + 1 => fun b out h => headP_step (Eq.mpr (ref02_Padded_g0 b out Q) (have h := (ref02_Padded_h0_q k b out).symm.trans h; ⟨by decide +kernel, cond_ok h (fun h => ite_ok h fun hc0 h => (ref02_Padded_k0 hQ k) _ _ h) (fun h => (ref02_Padded_k2 hQ _) _ _ _ h)⟩))
theorem ref02_Padded_e (b : List UInt8) (Q : CallOut → Prop) : evalFnP ref02_Padded_C ref02_Padded_lv ref02_Padded_r ref02_Padded_hs ref02_Padded_b [.pv (.sl .u8 b)] [] Q =
    (((((List.length (([] : List UInt8) ++ b)) * (1 : Nat)) ≤ (70368744177664 : Nat)) ∧ ((List.length (([] : List UInt8) ++ b)) ≤ (70368744177664 : Nat))) ∧ (((((List.length ((([] : List UInt8) ++ b) ++ ([(128 : UInt8)] : List UInt8))) * (1 : Nat)) ≤ (70368744177664 : Nat)) ∧ ((List.length ((([] : List UInt8) ++ b) ++ ([(128 : UInt8)] : List UInt8))) ≤ (70368744177664 : Nat))) ∧ (headP ref02_Padded_C ref02_Padded_lv [true, true, true, true, false, false] ref02_Padded_b (ref02_Padded_s0 b ((([] : List UInt8) ++ b) ++ ([(128 : UInt8)] : List UInt8))) (fnK ref02_Padded_C ref02_Padded_r ref02_Padded_hs Q)))) := by kernel_rfl
theorem ref02_Padded_w {k : Nat} (b : List UInt8) {r} {Q : CallOut → Prop} (h : ref02_Padded k b = some r) (hQ : Q (ref02_Padded_enc r)) : evalFnP ref02_Padded_C ref02_Padded_lv ref02_Padded_r ref02_Padded_hs ref02_Padded_b [.pv (.sl .u8 b)] [] Q :=
  Eq.mpr (ref02_Padded_e b Q) (have h := (ref02_Padded_q k b).symm.trans h; ite_ok h fun hc0 h => ite_ok h fun hc1 h => (ref02_Padded_k0 hQ _) _ _ h)
def ref02_Padded_c : Ans
  | [.pv (.sl .u8 b)], [] => some (some (b.length ≤ 1099511627776), ref02_Padded_enc (shaPad b))
  | _, _ => none
theorem ref02_Padded_tok : TblOK Tryd.prog theG ref02_Padded_T := .nil
theorem ref02_Padded_ok : FnOK Tryd.prog theG 77 (unW ref02_Padded_c) := by
  refine FnOK.ofC (T := ref02_Padded_T) (nt := 38) (np := 0) (mv := []) (nf := false) (hs := ref02_Padded_hs) (fn := Tryd.f77) (body := ref02_Padded_b) ref02_Padded_tok (by kernel_rfl) (by kernel_rfl) (by kernel_rfl) (by kernel_rfl) (c := ref02_Padded_c) (lv := ref02_Padded_lv) ?_
  intro xs mem p out h hp
  unfold ref02_Padded_c at h
  split at h
  · cases h
    obtain ⟨k, hk⟩ := ref02_Padded_spec _ hp
    exact ref02_Padded_w _ hk rfl
  · cases h
end
end Go.Proofs.YtbdajagcinfeeaaDoor.M

namespace Go.Proofs.YtbdajagcinfeeaaDoor.M
open Go
noncomputable section
set_option maxRecDepth 100000
set_option maxHeartbeats 0
noncomputable def ref02_turn_T : Tbl := []
noncomputable def ref02_turn_C : CfgW := mkC Tryd.prog theG ref02_turn_T 13 0 false
def ref02_turn_lv : Nat → List Nat := fun i => []
noncomputable abbrev ref02_turn_b : Code := Tryd.f88.body.getD .skip
noncomputable abbrev ref02_turn_r : List ResultVar := Tryd.f88.results.toList
def ref02_turn_hs : List Nat := []

def ref02_turn_enc (r : UInt32) : CallOut := ⟨.pv (.sc .u32 r), [], true, []⟩
theorem ref02_turn_e (x_0 : UInt32) (n : UInt64) (Q : CallOut → Prop) : evalFnP ref02_turn_C ref02_turn_lv ref02_turn_r ref02_turn_hs ref02_turn_b [.pv (.sc .u32 x_0), .pv (.sc .u64 n)] [] Q =
    (Q (ref02_turn_enc ((shr_u32 x_0 (UInt64.toNat n)) ||| (shl_u32 x_0 (UInt64.toNat ((32 : UInt64) - n)))))) := by kernel_rfl
theorem ref02_turn_w (x_0 : UInt32) (n : UInt64) {Q : CallOut → Prop} (h : Q (ref02_turn_enc (ref02_turn x_0 n))) : evalFnP ref02_turn_C ref02_turn_lv ref02_turn_r ref02_turn_hs ref02_turn_b [.pv (.sc .u32 x_0), .pv (.sc .u64 n)] [] Q :=
  Eq.mpr (ref02_turn_e x_0 n Q) (have h := Eq.mp (congrArg (fun r => Q (ref02_turn_enc r)) (ref02_turn_q x_0 n)) h; h)
def ref02_turn_c : Ans
  | [.pv (.sc .u32 x_0), .pv (.sc .u64 n)], [] => some (none, ref02_turn_enc (ref02_turn x_0 n))
  | _, _ => none
theorem ref02_turn_tok : TblOK Tryd.prog theG ref02_turn_T := .nil
theorem ref02_turn_ok : FnOK Tryd.prog theG 88 (unW ref02_turn_c) := by
  refine FnOK.ofC (T := ref02_turn_T) (nt := 13) (np := 0) (mv := []) (nf := false) (hs := ref02_turn_hs) (fn := Tryd.f88) (body := ref02_turn_b) ref02_turn_tok (by kernel_rfl) (by kernel_rfl) (by kernel_rfl) (by kernel_rfl) (c := ref02_turn_c) (lv := ref02_turn_lv) ?_
  intro xs mem p out h hp
  unfold ref02_turn_c at h
  split at h
  · cases h
    exact ref02_turn_w _ _ rfl
  · cases h
end
end Go.Proofs.YtbdajagcinfeeaaDoor.M

namespace Go.Proofs.YtbdajagcinfeeaaDoor.M
open Go
noncomputable section
set_option maxRecDepth 100000
set_option maxHeartbeats 0
noncomputable def ref02_round_T : Tbl := [(88, [], ref02_turn_c)]
noncomputable def ref02_round_C : CfgW := mkC Tryd.prog theG ref02_round_T 181 0 false
def ref02_round_lv : Nat → List Nat := fun i => bif Nat.beq i 10 then [3, 6, 13, 20] else bif Nat.beq i 8 then [3, 5, 6, 7, 13, 14, 17, 18, 19] else bif Nat.beq i 6 then [3, 5, 6, 7, 13, 14] else bif Nat.beq i 4 then [3, 5, 6, 7, 10] else bif Nat.beq i 2 then [1, 3, 5, 6, 7, 8, 9] else bif Nat.beq i 0 then [1, 3, 5, 6, 7, 8] else []
noncomputable abbrev ref02_round_b : Code := Tryd.f78.body.getD .skip
noncomputable abbrev ref02_round_r : List ResultVar := Tryd.f78.results.toList
def ref02_round_hs : List Nat := []

def ref02_round_enc (r : Vector UInt32 8) : CallOut := ⟨.pv (.arr .u32 8 r), [], true, []⟩
def ref02_round_s0 (b : List UInt8) (i : Int) (s : Vector UInt32 8) (k_ : Vector UInt32 64) (t6 : Vector UInt32 8) (w : Vector UInt32 64) : St := ⟨[(1, .pv (.sl .u8 b)), (3, .p 60000 []), (5, .p 60001 []), (6, .p 60002 []), (7, .p 60003 []), (8, .pv (.sc .i i))], [(60000, .box (.pv (.arr .u32 8 s))), (60001, .box (.pv (.arr .u32 64 k_))), (60002, .box (.pv (.arr .u32 8 t6))), (60003, .box (.pv (.arr .u32 64 w)))]⟩
def ref02_round_s2 (b : List UInt8) (i : Int) (j : Int) (s : Vector UInt32 8) (k_ : Vector UInt32 64) (t6 : Vector UInt32 8) (w : Vector UInt32 64) : St := ⟨[(1, .pv (.sl .u8 b)), (3, .p 60000 []), (5, .p 60001 []), (6, .p 60002 []), (7, .p 60003 []), (8, .pv (.sc .i i)), (9, .pv (.sc .i j))], [(60000, .box (.pv (.arr .u32 8 s))), (60001, .box (.pv (.arr .u32 64 k_))), (60002, .box (.pv (.arr .u32 8 t6))), (60003, .box (.pv (.arr .u32 64 w)))]⟩
def ref02_round_s4 (i : Int) (s : Vector UInt32 8) (k_ : Vector UInt32 64) (t6 : Vector UInt32 8) (w : Vector UInt32 64) : St := ⟨[(3, .p 60000 []), (5, .p 60001 []), (6, .p 60002 []), (7, .p 60003 []), (10, .pv (.sc .i i))], [(60000, .box (.pv (.arr .u32 8 s))), (60001, .box (.pv (.arr .u32 64 k_))), (60002, .box (.pv (.arr .u32 8 t6))), (60003, .box (.pv (.arr .u32 64 w)))]⟩
def ref02_round_s6 (i : Int) (s : Vector UInt32 8) (k_ : Vector UInt32 64) (t6 : Vector UInt32 8) (w : Vector UInt32 64) (v : Vector UInt32 8) : St := ⟨[(3, .p 60000 []), (5, .p 60001 []), (6, .p 60002 []), (7, .p 60003 []), (13, .p 60004 []), (14, .pv (.sc .i i))], [(60000, .box (.pv (.arr .u32 8 s))), (60001, .box (.pv (.arr .u32 64 k_))), (60002, .box (.pv (.arr .u32 8 t6))), (60003, .box (.pv (.arr .u32 64 w))), (60004, .box (.pv (.arr .u32 8 v)))]⟩
def ref02_round_s8 (i : Int) (t : UInt32) (u : UInt32) (j : Int) (s : Vector UInt32 8) (k_ : Vector UInt32 64) (t6 : Vector UInt32 8) (w : Vector UInt32 64) (v : Vector UInt32 8) : St := ⟨[(3, .p 60000 []), (5, .p 60001 []), (6, .p 60002 []), (7, .p 60003 []), (13, .p 60004 []), (14, .pv (.sc .i i)), (17, .pv (.sc .u32 t)), (18, .pv (.sc .u32 u)), (19, .pv (.sc .i j))], [(60000, .box (.pv (.arr .u32 8 s))), (60001, .box (.pv (.arr .u32 64 k_))), (60002, .box (.pv (.arr .u32 8 t6))), (60003, .box (.pv (.arr .u32 64 w))), (60004, .box (.pv (.arr .u32 8 v)))]⟩
def ref02_round_s10 (i : Int) (s : Vector UInt32 8) (t6 : Vector UInt32 8) (v : Vector UInt32 8) : St := ⟨[(3, .p 60000 []), (6, .p 60001 []), (13, .p 60002 []), (20, .pv (.sc .i i))], [(60000, .box (.pv (.arr .u32 8 s))), (60001, .box (.pv (.arr .u32 8 t6))), (60002, .box (.pv (.arr .u32 8 v)))]⟩
theorem ref02_round_g0 (b : List UInt8) (i : Int) (s : Vector UInt32 8) (k_ : Vector UInt32 64) (t6 : Vector UInt32 8) (w : Vector UInt32 64) (Q : CallOut → Prop) : headRound ref02_round_C ref02_round_lv [true, true, false, true, false] ref02_round_b (ref02_round_s0 b i s k_ t6 w) (fnK ref02_round_C ref02_round_r ref02_round_hs Q) =
    (condP (decide (i < (16 : Int))) (headP ref02_round_C ref02_round_lv [true, true, false, true, false, false, true, false, false, true, false] ref02_round_b (ref02_round_s2 b i (0 : Int) s k_ t6 w) (fnK ref02_round_C ref02_round_r ref02_round_hs Q)) (headP ref02_round_C ref02_round_lv [true, true, true, false, true, false] ref02_round_b (ref02_round_s4 (16 : Int) s k_ t6 w) (fnK ref02_round_C ref02_round_r ref02_round_hs Q))) := by kernel_rfl
theorem ref02_round_g2 (b : List UInt8) (i : Int) (j : Int) (s : Vector UInt32 8) (k_ : Vector UInt32 64) (t6 : Vector UInt32 8) (w : Vector UInt32 64) (Q : CallOut → Prop) : headRound ref02_round_C ref02_round_lv [true, true, false, true, false, false, true, false, false, true, false] ref02_round_b (ref02_round_s2 b i j s k_ t6 w) (fnK ref02_round_C ref02_round_r ref02_round_hs Q) =
    (condP (decide (j < (4 : Int))) ((((0 : Int) ≤ i) ∧ (i < (64 : Int))) ∧ ((((0 : Int) ≤ (w64 ((w64 ((4 : Int) * i)) + j))) ∧ ((w64 ((w64 ((4 : Int) * i)) + j)) < (((List.length b) : Nat) : Int))) ∧ ((((0 : Int) ≤ i) ∧ (i < (64 : Int))) ∧ (headP ref02_round_C ref02_round_lv [true, true, false, true, false, false, true, false, false, true, false] ref02_round_b (ref02_round_s2 b i (w64 (j + (1 : Int))) s k_ t6 (Vector.setIfInBounds w (Int.toNat i) (((256 : UInt32) * (List.getD (Vector.toList w) (Int.toNat i) (0 : UInt32))) + (UInt8.toUInt32 (List.getD b (Int.toNat (w64 ((w64 ((4 : Int) * i)) + j))) (0 : UInt8)))))) (fnK ref02_round_C ref02_round_r ref02_round_hs Q))))) (headP ref02_round_C ref02_round_lv [true, true, false, true, false] ref02_round_b (ref02_round_s0 b (w64 (i + (1 : Int))) s k_ t6 w) (fnK ref02_round_C ref02_round_r ref02_round_hs Q))) := by kernel_rfl
theorem ref02_round_g4 (i : Int) (s : Vector UInt32 8) (k_ : Vector UInt32 64) (t6 : Vector UInt32 8) (w : Vector UInt32 64) (Q : CallOut → Prop) : headRound ref02_round_C ref02_round_lv [true, true, true, false, true, false] ref02_round_b (ref02_round_s4 i s k_ t6 w) (fnK ref02_round_C ref02_round_r ref02_round_hs Q) =
    (condP (decide (i < (64 : Int))) ((((0 : Int) ≤ (w64 (i - (15 : Int)))) ∧ ((w64 (i - (15 : Int))) < (64 : Int))) ∧ ((((0 : Int) ≤ (w64 (i - (2 : Int)))) ∧ ((w64 (i - (2 : Int))) < (64 : Int))) ∧ ((((0 : Int) ≤ (w64 (i - (16 : Int)))) ∧ ((w64 (i - (16 : Int))) < (64 : Int))) ∧ ((((0 : Int) ≤ (w64 (i - (7 : Int)))) ∧ ((w64 (i - (7 : Int))) < (64 : Int))) ∧ ((((0 : Int) ≤ i) ∧ (i < (64 : Int))) ∧ (headP ref02_round_C ref02_round_lv [true, true, true, false, true, false] ref02_round_b (ref02_round_s4 (w64 (i + (1 : Int))) s k_ t6 (Vector.setIfInBounds w (Int.toNat i) ((((List.getD (Vector.toList w) (Int.toNat (w64 (i - (16 : Int)))) (0 : UInt32)) + (((ref02_turn (List.getD (Vector.toList w) (Int.toNat (w64 (i - (15 : Int)))) (0 : UInt32)) (7 : UInt64)) ^^^ (ref02_turn (List.getD (Vector.toList w) (Int.toNat (w64 (i - (15 : Int)))) (0 : UInt32)) (18 : UInt64))) ^^^ (shr_u32 (List.getD (Vector.toList w) (Int.toNat (w64 (i - (15 : Int)))) (0 : UInt32)) (3 : Nat)))) + (List.getD (Vector.toList w) (Int.toNat (w64 (i - (7 : Int)))) (0 : UInt32))) + (((ref02_turn (List.getD (Vector.toList w) (Int.toNat (w64 (i - (2 : Int)))) (0 : UInt32)) (17 : UInt64)) ^^^ (ref02_turn (List.getD (Vector.toList w) (Int.toNat (w64 (i - (2 : Int)))) (0 : UInt32)) (19 : UInt64))) ^^^ (shr_u32 (List.getD (Vector.toList w) (Int.toNat (w64 (i - (2 : Int)))) (0 : UInt32)) (10 : Nat)))))) (fnK ref02_round_C ref02_round_r ref02_round_hs Q))))))) (headP ref02_round_C ref02_round_lv [true, true, true, true, true, false, true, false] ref02_round_b (ref02_round_s6 (0 : Int) s k_ t6 w s) (fnK ref02_round_C ref02_round_r ref02_round_hs Q))) := by kernel_rfl
theorem ref02_round_g6 (i : Int) (s : Vector UInt32 8) (k_ : Vector UInt32 64) (t6 : Vector UInt32 8) (w : Vector UInt32 64) (v : Vector UInt32 8) (Q : CallOut → Prop) : headRound ref02_round_C ref02_round_lv [true, true, true, true, true, false, true, false] ref02_round_b (ref02_round_s6 i s k_ t6 w v) (fnK ref02_round_C ref02_round_r ref02_round_hs Q) =
    (condP (decide (i < (64 : Int))) ((((0 : Int) ≤ (0 : Int)) ∧ ((0 : Int) < (8 : Int))) ∧ ((((0 : Int) ≤ (4 : Int)) ∧ ((4 : Int) < (8 : Int))) ∧ ((((0 : Int) ≤ (7 : Int)) ∧ ((7 : Int) < (8 : Int))) ∧ ((((0 : Int) ≤ (5 : Int)) ∧ ((5 : Int) < (8 : Int))) ∧ ((((0 : Int) ≤ (6 : Int)) ∧ ((6 : Int) < (8 : Int))) ∧ ((((0 : Int) ≤ i) ∧ (i < (64 : Int))) ∧ ((((0 : Int) ≤ i) ∧ (i < (64 : Int))) ∧ ((((0 : Int) ≤ (1 : Int)) ∧ ((1 : Int) < (8 : Int))) ∧ ((((0 : Int) ≤ (2 : Int)) ∧ ((2 : Int) < (8 : Int))) ∧ ((((0 : Int) ≤ (1 : Int)) ∧ ((1 : Int) < (8 : Int))) ∧ ((((0 : Int) ≤ (2 : Int)) ∧ ((2 : Int) < (8 : Int))) ∧ (headP ref02_round_C ref02_round_lv [true, true, true, true, true, false, true, false, false, true, false, false, true, true, true, false, true, false] ref02_round_b (ref02_round_s8 i (((((List.getD (Vector.toList v) (7 : Nat) (0 : UInt32)) + (((ref02_turn (List.getD (Vector.toList v) (4 : Nat) (0 : UInt32)) (6 : UInt64)) ^^^ (ref02_turn (List.getD (Vector.toList v) (4 : Nat) (0 : UInt32)) (11 : UInt64))) ^^^ (ref02_turn (List.getD (Vector.toList v) (4 : Nat) (0 : UInt32)) (25 : UInt64)))) + (((List.getD (Vector.toList v) (4 : Nat) (0 : UInt32)) &&& (List.getD (Vector.toList v) (5 : Nat) (0 : UInt32))) ^^^ ((~~~(List.getD (Vector.toList v) (4 : Nat) (0 : UInt32))) &&& (List.getD (Vector.toList v) (6 : Nat) (0 : UInt32))))) + (List.getD (Vector.toList k_) (Int.toNat i) (0 : UInt32))) + (List.getD (Vector.toList w) (Int.toNat i) (0 : UInt32))) ((((ref02_turn (List.getD (Vector.toList v) (0 : Nat) (0 : UInt32)) (2 : UInt64)) ^^^ (ref02_turn (List.getD (Vector.toList v) (0 : Nat) (0 : UInt32)) (13 : UInt64))) ^^^ (ref02_turn (List.getD (Vector.toList v) (0 : Nat) (0 : UInt32)) (22 : UInt64))) + ((((List.getD (Vector.toList v) (0 : Nat) (0 : UInt32)) &&& (List.getD (Vector.toList v) (1 : Nat) (0 : UInt32))) ^^^ ((List.getD (Vector.toList v) (0 : Nat) (0 : UInt32)) &&& (List.getD (Vector.toList v) (2 : Nat) (0 : UInt32)))) ^^^ ((List.getD (Vector.toList v) (1 : Nat) (0 : UInt32)) &&& (List.getD (Vector.toList v) (2 : Nat) (0 : UInt32))))) (7 : Int) s k_ t6 w v) (fnK ref02_round_C ref02_round_r ref02_round_hs Q))))))))))))) (headP ref02_round_C ref02_round_lv [true, true, true, true, true, true, false, true, false] ref02_round_b (ref02_round_s10 (0 : Int) s t6 v) (fnK ref02_round_C ref02_round_r ref02_round_hs Q))) := by kernel_rfl
theorem ref02_round_g8 (i : Int) (t : UInt32) (u : UInt32) (j : Int) (s : Vector UInt32 8) (k_ : Vector UInt32 64) (t6 : Vector UInt32 8) (w : Vector UInt32 64) (v : Vector UInt32 8) (Q : CallOut → Prop) : headRound ref02_round_C ref02_round_lv [true, true, true, true, true, false, true, false, false, true, false, false, true, true, true, false, true, false] ref02_round_b (ref02_round_s8 i t u j s k_ t6 w v) (fnK ref02_round_C ref02_round_r ref02_round_hs Q) =
    (condP (decide ((0 : Int) < j)) ((((0 : Int) ≤ (w64 (j - (1 : Int)))) ∧ ((w64 (j - (1 : Int))) < (8 : Int))) ∧ ((((0 : Int) ≤ j) ∧ (j < (8 : Int))) ∧ (headP ref02_round_C ref02_round_lv [true, true, true, true, true, false, true, false, false, true, false, false, true, true, true, false, true, false] ref02_round_b (ref02_round_s8 i t u (w64 (j - (1 : Int))) s k_ t6 w (Vector.setIfInBounds v (Int.toNat j) (List.getD (Vector.toList v) (Int.toNat (w64 (j - (1 : Int)))) (0 : UInt32)))) (fnK ref02_round_C ref02_round_r ref02_round_hs Q)))) ((((0 : Int) ≤ (4 : Int)) ∧ ((4 : Int) < (8 : Int))) ∧ ((((0 : Int) ≤ (4 : Int)) ∧ ((4 : Int) < (8 : Int))) ∧ ((((0 : Int) ≤ (0 : Int)) ∧ ((0 : Int) < (8 : Int))) ∧ (headP ref02_round_C ref02_round_lv [true, true, true, true, true, false, true, false] ref02_round_b (ref02_round_s6 (w64 (i + (1 : Int))) s k_ t6 w (Vector.setIfInBounds (Vector.setIfInBounds v (4 : Nat) ((List.getD (Vector.toList v) (4 : Nat) (0 : UInt32)) + t)) (0 : Nat) (t + u))) (fnK ref02_round_C ref02_round_r ref02_round_hs Q)))))) := by kernel_rfl
theorem ref02_round_g10 (i : Int) (s : Vector UInt32 8) (t6 : Vector UInt32 8) (v : Vector UInt32 8) (Q : CallOut → Prop) : headRound ref02_round_C ref02_round_lv [true, true, true, true, true, true, false, true, false] ref02_round_b (ref02_round_s10 i s t6 v) (fnK ref02_round_C ref02_round_r ref02_round_hs Q) =
    (condP (decide (i < (8 : Int))) ((((0 : Int) ≤ i) ∧ (i < (8 : Int))) ∧ ((((0 : Int) ≤ i) ∧ (i < (8 : Int))) ∧ ((((0 : Int) ≤ i) ∧ (i < (8 : Int))) ∧ (headP ref02_round_C ref02_round_lv [true, true, true, true, true, true, false, true, false] ref02_round_b (ref02_round_s10 (w64 (i + (1 : Int))) s t6 (Vector.setIfInBounds v (Int.toNat i) ((List.getD (Vector.toList v) (Int.toNat i) (0 : UInt32)) + (List.getD (Vector.toList s) (Int.toNat i) (0 : UInt32))))) (fnK ref02_round_C ref02_round_r ref02_round_hs Q))))) (Q (ref02_round_enc v))) := by kernel_rfl
theorem ref02_round_k10 {r : Vector UInt32 8} {Q : CallOut → Prop} (hQ : Q (ref02_round_enc r)) : ∀ k : Nat, (∀ (i : Int) (s : Vector UInt32 8) (t6 : Vector UInt32 8) (v : Vector UInt32 8), ref02_round_h10 k i s t6 v = some r → headP ref02_round_C ref02_round_lv [true, true, true, true, true, true, false, true, false] ref02_round_b (ref02_round_s10 i s t6 v) (fnK ref02_round_C ref02_round_r ref02_round_hs Q))
  | 0 => fun _ _ _ _ h => no_ok h
  | k + 1 => fun i s t6 v h => headP_step (Eq.mpr (ref02_round_g10 i s t6 v Q) (have h := (ref02_round_h10_q k i s t6 v).symm.trans h; cond_ok h (fun h => ite_ok h fun hc0 h => ⟨hc0, ⟨hc0, (ref02_round_k10 hQ k) _ _ _ _ h⟩⟩) (fun h => ret_ok (Q := Q) (e := ref02_round_enc) h hQ)))
theorem ref02_round_k6 {r : Vector UInt32 8} {Q : CallOut → Prop} (hQ : Q (ref02_round_enc r)) : ∀ k : Nat, (∀ (i : Int) (s : Vector UInt32 8) (k_ : Vector UInt32 64) (t6 : Vector UInt32 8) (w : Vector UInt32 64) (v : Vector UInt32 8), ref02_round_h6 k i s k_ t6 w v = some r → headP ref02_round_C ref02_round_lv [true, true, true, true, true, false, true, false] ref02_round_b (ref02_round_s6 i s k_ t6 w v) (fnK ref02_round_C ref02_round_r ref02_round_hs Q)) ∧ (∀ (i : Int) (t : UInt32) (u : UInt32) (j : Int) (s : Vector UInt32 8) (k_ : Vector UInt32 64) (t6 : Vector UInt32 8) (w : Vector UInt32 64) (v : Vector UInt32 8), ref02_round_h8 k i t u j s k_ t6 w v = some r → headP ref02_round_C ref02_round_lv [true, true, true, true, true, false, true, false, false, true, false, false, true, true, true, false, true, false] ref02_round_b (ref02_round_s8 i t u j s k_ t6 w v) (fnK ref02_round_C ref02_round_r ref02_round_hs Q))
  | 0 => ⟨fun _ _ _ _ _ _ h => no_ok h, fun _ _ _ _ _ _ _ _ _ h => no_ok h⟩
  | k + 1 => ⟨fun i s k_ t6 w v h => headP_step (Eq.mpr (ref02_round_g6 i s k_ t6 w v Q) (have h := (ref02_round_h6_q k i s k_ t6 w v).symm.trans h; cond_ok h (fun h => ⟨by decide +kernel, ⟨by decide +kernel, ⟨by decide +kernel, ⟨by decide +kernel, ⟨by decide +kernel, ite_ok h fun hc0 h => ⟨hc0, ⟨by decide +kernel, ⟨by decide +kernel, ⟨by decide +kernel, ⟨by decide +kernel, (ref02_round_k6 hQ k).2 _ _ _ _ _ _ _ _ _ h⟩⟩⟩⟩⟩⟩⟩⟩⟩⟩) (fun h => (ref02_round_k10 hQ _) _ _ _ _ h))),
    fun i t u j s k_ t6 w v h => headP_step (Eq.mpr (ref02_round_g8 i t u j s k_ t6 w v Q) (have h := (ref02_round_h8_q k i t u j s k_ t6 w v).symm.trans h; cond_ok h (fun h => ite_ok h fun hc0 h => ite_ok h fun hc1 h => (ref02_round_k6 hQ k).2 _ _ _ _ _ _ _ _ _ h) (fun h => ⟨by decide +kernel, ⟨by decide +kernel, ⟨by decide +kernel, (ref02_round_k6 hQ k).1 _ _ _ _ _ _ h⟩⟩⟩)))⟩
theorem ref02_round_k4 {r : Vector UInt32 8} {Q : CallOut → Prop} (hQ : Q (ref02_round_enc r)) : ∀ k : Nat, (∀ (i : Int) (s : Vector UInt32 8) (k_ : Vector UInt32 64) (t6 : Vector UInt32 8) (w : Vector UInt32 64), ref02_round_h4 k i s k_ t6 w = some r → headP ref02_round_C ref02_round_lv [true, true, true, false, true, false] ref02_round_b (ref02_round_s4 i s k_ t6 w) (fnK ref02_round_C ref02_round_r ref02_round_hs Q))
  | 0 => fun _ _ _ _ _ h => no_ok h
  | k + 1 => fun i s k_ t6 w h => headP_step (Eq.mpr (ref02_round_g4 i s k_ t6 w Q) (have h := (ref02_round_h4_q k i s k_ t6 w).symm.trans h; cond_ok h (fun h => ite_ok h fun hc0 h => ite_ok h fun hc1 h => ite_ok h fun hc2 h => ite_ok h fun hc3 h => ite_ok h fun hc4 h => (ref02_round_k4 hQ k) _ _ _ _ _ h) (fun h => (ref02_round_k6 hQ _).1 _ _ _ _ _ _ h)))
theorem ref02_round_k0 {r : Vector UInt32 8} {Q : CallOut → Prop} (hQ : Q (ref02_round_enc r)) : ∀ k : Nat, (∀ (b : List UInt8) (i : Int) (s : Vector UInt32 8) (k_ : Vector UInt32 64) (t6 : Vector UInt32 8) (w : Vector UInt32 64), ref02_round_h0 k b i s k_ t6 w = some r → headP ref02_round_C ref02_round_lv [true, true, false, true, false] ref02_round_b (ref02_round_s0 b i s k_ t6 w) (fnK ref02_round_C ref02_round_r ref02_round_hs Q)) ∧ (∀ (b : List UInt8) (i : Int) (j : Int) (s : Vector UInt32 8) (k_ : Vector UInt32 64) (t6 : Vector UInt32 8) (w : Vector UInt32 64), ref02_round_h2 k b i j s k_ t6 w = some r → headP ref02_round_C ref02_round_lv [true, true, false, true, false, false, true, false, false, true, false] ref02_round_b (ref02_round_s2 b i j s k_ t6 w) (fnK ref02_round_C ref02_round_r ref02_round_hs Q))
  | 0 => ⟨fun _ _ _ _ _ _ h => no_ok h, fun _ _ _ _ _ _ _ h => no_ok h⟩
  | k + 1 => ⟨fun b i s k_ t6 w h => headP_step (Eq.mpr (ref02_round_g0 b i s k_ t6 w Q) (have h := (ref02_round_h0_q k b i s k_ t6 w).symm.trans h; cond_ok h (fun h => (ref02_round_k0 hQ k).2 _ _ _ _ _ _ _ h) (fun h => (ref02_round_k4 hQ _) _ _ _ _ _ h))),
    fun b i j s k_ t6 w h => headP_step (Eq.mpr (ref02_round_g2 b i j s k_ t6 w Q) (have h := (ref02_round_h2_q k b i j s k_ t6 w).symm.trans h; cond_ok h (fun h => ite_ok h fun hc0 h => ite_ok h fun hc1 h => ⟨hc0, (ref02_round_k0 hQ k).2 _ _ _ _ _ _ _ h⟩) (fun h => (ref02_round_k0 hQ k).1 _ _ _ _ _ _ h)))⟩
theorem ref02_round_e (s : Vector UInt32 8) (b : List UInt8) (k_2 : Vector UInt32 64) (Q : CallOut → Prop) : evalFnP ref02_round_C ref02_round_lv ref02_round_r ref02_round_hs ref02_round_b [.pv (.arr .u32 8 s), .pv (.sl .u8 b), .pv (.arr .u32 64 k_2)] [] Q =
    (headP ref02_round_C ref02_round_lv [true, true, false, true, false] ref02_round_b (ref02_round_s0 b (0 : Int) s k_2 (Vector.replicate (8 : Nat) (0 : UInt32)) (Vector.replicate (64 : Nat) (0 : UInt32))) (fnK ref02_round_C ref02_round_r ref02_round_hs Q)) := by kernel_rfl
theorem ref02_round_w {k : Nat} (s : Vector UInt32 8) (b : List UInt8) (k_2 : Vector UInt32 64) {r} {Q : CallOut → Prop} (h : ref02_round k s b k_2 = some r) (hQ : Q (ref02_round_enc r)) : evalFnP ref02_round_C ref02_round_lv ref02_round_r ref02_round_hs ref02_round_b [.pv (.arr .u32 8 s), .pv (.sl .u8 b), .pv (.arr .u32 64 k_2)] [] Q :=
  Eq.mpr (ref02_round_e s b k_2 Q) (have h := (ref02_round_q k s b k_2).symm.trans h; (ref02_round_k0 hQ _).1 _ _ _ _ _ _ h)
def ref02_round_c : Ans
  | [.pv (.arr .u32 8 s), .pv (.sl .u8 b), .pv (.arr .u32 64 k_2)], [] => some (some (64 ≤ b.length), ref02_round_enc (shaRound k_2 s (fun i => List.getD b i 0)))
  | _, _ => none
theorem ref02_round_tok : TblOK Tryd.prog theG ref02_round_T := .cons ⟨by kernel_rfl, ref02_turn_ok⟩ (.nil)
theorem ref02_round_ok : FnOK Tryd.prog theG 78 (unW ref02_round_c) := by
  refine FnOK.ofC (T := ref02_round_T) (nt := 181) (np := 0) (mv := []) (nf := false) (hs := ref02_round_hs) (fn := Tryd.f78) (body := ref02_round_b) ref02_round_tok (by kernel_rfl) (by kernel_rfl) (by kernel_rfl) (by kernel_rfl) (c := ref02_round_c) (lv := ref02_round_lv) ?_
  intro xs mem p out h hp
  unfold ref02_round_c at h
  split at h
  · cases h
    obtain ⟨k, hk⟩ := ref02_round_spec _ _ _ hp
    exact ref02_round_w _ _ _ hk rfl
  · cases h
end
end Go.Proofs.YtbdajagcinfeeaaDoor.M

namespace Go.Proofs.YtbdajagcinfeeaaDoor.M
open Go
noncomputable section
set_option maxRecDepth 100000
set_option maxHeartbeats 0
noncomputable def ref02_hSum_T : Tbl := [(77, [], ref02_Padded_c), (78, [], ref02_round_c)]
noncomputable def ref02_hSum_C : CfgW := mkC Tryd.prog theG ref02_hSum_T 51 0 false
def ref02_hSum_lv : Nat → List Nat := fun i => bif Nat.beq i 2 then [4, 6, 8, 9] else bif Nat.beq i 0 then [0, 4, 5, 6, 7] else []
noncomputable abbrev ref02_hSum_b : Code := Tryd.f58.body.getD .skip
noncomputable abbrev ref02_hSum_r : List ResultVar := Tryd.f58.results.toList
def ref02_hSum_hs : List Nat := []

def ref02_hSum_enc (r : Vector UInt8 32) : CallOut := ⟨.pv (.arr .u8 32 r), [], true, []⟩
def ref02_hSum_s0 (h_ : Vector UInt32 8) (h1 : Vector UInt32 64) (i : Int) (t4 : Vector UInt8 32) (p : List UInt8) (s : Vector UInt32 8) : St := ⟨[(0, .rp (.st [.arr .u32 8 h_, .arr .u32 64 h1])), (4, .p 60000 []), (5, .o 60001), (6, .p 60002 []), (7, .pv (.sc .i i))], [(60000, .box (.pv (.arr .u8 32 t4))), (60001, .row (.s .u8 p) false), (60002, .box (.pv (.arr .u32 8 s)))]⟩
def ref02_hSum_s2 (i : Int) (t4 : Vector UInt8 32) (s : Vector UInt32 8) (out : Vector UInt8 32) : St := ⟨[(4, .p 60000 []), (6, .p 60001 []), (8, .p 60002 []), (9, .pv (.sc .i i))], [(60000, .box (.pv (.arr .u8 32 t4))), (60001, .box (.pv (.arr .u32 8 s))), (60002, .box (.pv (.arr .u8 32 out)))]⟩
theorem ref02_hSum_g0 (h_ : Vector UInt32 8) (h1 : Vector UInt32 64) (i : Int) (t4 : Vector UInt8 32) (p : List UInt8) (s : Vector UInt32 8) (Q : CallOut → Prop) : headRound ref02_hSum_C ref02_hSum_lv [true, true, true, false, true, false] ref02_hSum_b (ref02_hSum_s0 h_ h1 i t4 p s) (fnK ref02_hSum_C ref02_hSum_r ref02_hSum_hs Q) =
    (condP (decide (i < (((List.length p) : Nat) : Int))) ((((0 : Int) ≤ i) ∧ ((i ≤ (w64 (i + (64 : Int)))) ∧ ((w64 (i + (64 : Int))) ≤ (((List.length p) : Nat) : Int)))) ∧ (((64 : Nat) ≤ (List.length (List.take ((Int.toNat (w64 (i + (64 : Int)))) - (Int.toNat i)) (List.drop (Int.toNat i) p)))) ∧ (headP ref02_hSum_C ref02_hSum_lv [true, true, true, false, true, false] ref02_hSum_b (ref02_hSum_s0 h_ h1 (w64 (i + (64 : Int))) t4 p (shaRound h1 s (fun (z7 : Nat) => (List.getD (List.take ((Int.toNat (w64 (i + (64 : Int)))) - (Int.toNat i)) (List.drop (Int.toNat i) p)) z7 (0 : UInt8))))) (fnK ref02_hSum_C ref02_hSum_r ref02_hSum_hs Q)))) (headP ref02_hSum_C ref02_hSum_lv [true, true, true, true, true, false, true, false] ref02_hSum_b (ref02_hSum_s2 (0 : Int) t4 s (Vector.replicate (32 : Nat) (0 : UInt8))) (fnK ref02_hSum_C ref02_hSum_r ref02_hSum_hs Q))) := by kernel_rfl
theorem ref02_hSum_g2 (i : Int) (t4 : Vector UInt8 32) (s : Vector UInt32 8) (out : Vector UInt8 32) (Q : CallOut → Prop) : headRound ref02_hSum_C ref02_hSum_lv [true, true, true, true, true, false, true, false] ref02_hSum_b (ref02_hSum_s2 i t4 s out) (fnK ref02_hSum_C ref02_hSum_r ref02_hSum_hs Q) =
    (condP (decide (i < (32 : Int))) (((4 : Int) ≠ (0 : Int)) ∧ ((((0 : Int) ≤ (w64 (Int.tdiv i (4 : Int)))) ∧ ((w64 (Int.tdiv i (4 : Int))) < (8 : Int))) ∧ (((4 : Int) ≠ (0 : Int)) ∧ ((((0 : Int) ≤ i) ∧ (i < (32 : Int))) ∧ (headP ref02_hSum_C ref02_hSum_lv [true, true, true, true, true, false, true, false] ref02_hSum_b (ref02_hSum_s2 (w64 (i + (1 : Int))) t4 s (Vector.setIfInBounds out (Int.toNat i) (UInt32.toUInt8 (shr_u32 (List.getD (Vector.toList s) (Int.toNat (w64 (Int.tdiv i (4 : Int)))) (0 : UInt32)) (UInt64.toNat (UInt64.ofInt (w64 ((24 : Int) - (w64 ((8 : Int) * (Int.tmod i (4 : Int)))))))))))) (fnK ref02_hSum_C ref02_hSum_r ref02_hSum_hs Q)))))) (Q (ref02_hSum_enc out))) := by kernel_rfl
theorem ref02_hSum_k2 {r : Vector UInt8 32} {Q : CallOut → Prop} (hQ : Q (ref02_hSum_enc r)) : ∀ k : Nat, (∀ (i : Int) (t4 : Vector UInt8 32) (s : Vector UInt32 8) (out : Vector UInt8 32), ref02_hSum_h2 k i t4 s out = some r → headP ref02_hSum_C ref02_hSum_lv [true, true, true, true, true, false, true, false] ref02_hSum_b (ref02_hSum_s2 i t4 s out) (fnK ref02_hSum_C ref02_hSum_r ref02_hSum_hs Q))
  | 0 => fun _ _ _ _ h => no_ok h
  | k + 1 => fun i t4 s out h => headP_step (Eq.mpr (ref02_hSum_g2 i t4 s out Q) (have h := (ref02_hSum_h2_q k i t4 s out).symm.trans h; cond_ok h (fun h => ⟨by decide +kernel, ite_ok h fun hc0 h => ⟨by decide +kernel, ite_ok h fun hc1 h => (ref02_hSum_k2 hQ k) _ _ _ _ h⟩⟩) (fun h => ret_ok (Q := Q) (e := ref02_hSum_enc) h hQ)))
theorem ref02_hSum_k0 {r : Vector UInt8 32} {Q : CallOut → Prop} (hQ : Q (ref02_hSum_enc r)) : ∀ k : Nat, (∀ (h_ : Vector UInt32 8) (h1 : Vector UInt32 64) (i : Int) (t4 : Vector UInt8 32) (p : List UInt8) (s : Vector UInt32 8), ref02_hSum_h0 k h_ h1 i t4 p s = some r → headP ref02_hSum_C ref02_hSum_lv [true, true, true, false, true, false] ref02_hSum_b (ref02_hSum_s0 h_ h1 i t4 p s) (fnK ref02_hSum_C ref02_hSum_r ref02_hSum_hs Q))
  | 0 => fun _ _ _ _ _ _ h => no_ok h
  | k + 1 => fun h_ h1 i t4 p s h => headP_step (Eq.mpr (ref02_hSum_g0 h_ h1 i t4 p s Q) (have h := (ref02_hSum_h0_q k h_ h1 i t4 p s).symm.trans h; cond_ok h (fun h => ite_ok h fun hc0 h => ite_ok h fun hc1 h => (ref02_hSum_k0 hQ k) _ _ _ _ _ _ h) (fun h => (ref02_hSum_k2 hQ _) _ _ _ _ h)))
theorem ref02_hSum_e (h_0_begin : Vector UInt32 8) (h_0_k : Vector UInt32 64) (b : List UInt8) (Q : CallOut → Prop) : evalFnP ref02_hSum_C ref02_hSum_lv ref02_hSum_r ref02_hSum_hs ref02_hSum_b [.rp (.st [.arr .u32 8 h_0_begin, .arr .u32 64 h_0_k]), .pv (.sl .u8 b)] [] Q =
    (((List.length b) ≤ (1099511627776 : Nat)) ∧ (headP ref02_hSum_C ref02_hSum_lv [true, true, true, false, true, false] ref02_hSum_b (ref02_hSum_s0 h_0_begin h_0_k (0 : Int) (Vector.replicate (32 : Nat) (0 : UInt8)) (shaPad b) h_0_begin) (fnK ref02_hSum_C ref02_hSum_r ref02_hSum_hs Q))) := by kernel_rfl
theorem ref02_hSum_w {k : Nat} (h_0_begin : Vector UInt32 8) (h_0_k : Vector UInt32 64) (b : List UInt8) {r} {Q : CallOut → Prop} (h : ref02_hSum k h_0_begin h_0_k b = some r) (hQ : Q (ref02_hSum_enc r)) : evalFnP ref02_hSum_C ref02_hSum_lv ref02_hSum_r ref02_hSum_hs ref02_hSum_b [.rp (.st [.arr .u32 8 h_0_begin, .arr .u32 64 h_0_k]), .pv (.sl .u8 b)] [] Q :=
  Eq.mpr (ref02_hSum_e h_0_begin h_0_k b Q) (have h := (ref02_hSum_q k h_0_begin h_0_k b).symm.trans h; ite_ok h fun hc0 h => (ref02_hSum_k0 hQ _) _ _ _ _ _ _ h)
def ref02_hSum_c : Ans
  | [.rp (.st [.arr .u32 8 h_0_begin, .arr .u32 64 h_0_k]), .pv (.sl .u8 b)], [] => some (some (b.length ≤ 1099511627776 ∧ h_0_begin = shaInit ∧ h_0_k = shaK), ref02_hSum_enc (shaSum b))
  | _, _ => none
theorem ref02_hSum_tok : TblOK Tryd.prog theG ref02_hSum_T := .cons ⟨by kernel_rfl, ref02_Padded_ok⟩ (.cons ⟨by kernel_rfl, ref02_round_ok⟩ (.nil))
theorem ref02_hSum_ok : FnOK Tryd.prog theG 58 (unW ref02_hSum_c) := by
  refine FnOK.ofC (T := ref02_hSum_T) (nt := 51) (np := 0) (mv := []) (nf := false) (hs := ref02_hSum_hs) (fn := Tryd.f58) (body := ref02_hSum_b) ref02_hSum_tok (by kernel_rfl) (by kernel_rfl) (by kernel_rfl) (by kernel_rfl) (c := ref02_hSum_c) (lv := ref02_hSum_lv) ?_
  intro xs mem p out h hp
  unfold ref02_hSum_c at h
  split at h
  · cases h
    obtain ⟨k, hk⟩ := ref02_hSum_spec _ _ _ hp
    exact ref02_hSum_w _ _ _ hk rfl
  · cases h
end
end Go.Proofs.YtbdajagcinfeeaaDoor.M

namespace Go.Proofs.YtbdajagcinfeeaaDoor.M
open Go
noncomputable section
set_option maxRecDepth 100000
set_option maxHeartbeats 0
noncomputable def ref02_hTwice_T : Tbl := [(58, [], ref02_hSum_c), (42, [], ref02_List_c)]
noncomputable def ref02_hTwice_C : CfgW := mkC Tryd.prog theG ref02_hTwice_T 11 0 false
def ref02_hTwice_lv : Nat → List Nat := fun i => []
noncomputable abbrev ref02_hTwice_b : Code := Tryd.f41.body.getD .skip
noncomputable abbrev ref02_hTwice_r : List ResultVar := Tryd.f41.results.toList
def ref02_hTwice_hs : List Nat := []

def ref02_hTwice_enc (r : Vector UInt8 32) : CallOut := ⟨.pv (.arr .u8 32 r), [], true, []⟩
theorem ref02_hTwice_e (h_0_begin : Vector UInt32 8) (h_0_k : Vector UInt32 64) (b : List UInt8) (Q : CallOut → Prop) : evalFnP ref02_hTwice_C ref02_hTwice_lv ref02_hTwice_r ref02_hTwice_hs ref02_hTwice_b [.rp (.st [.arr .u32 8 h_0_begin, .arr .u32 64 h_0_k]), .pv (.sl .u8 b)] [] Q =
    ((((List.length b) ≤ (1099511627776 : Nat)) ∧ ((h_0_begin = shaInit) ∧ (h_0_k = shaK))) ∧ ((((List.length (Vector.toList (shaSum b))) ≤ (1099511627776 : Nat)) ∧ ((h_0_begin = shaInit) ∧ (h_0_k = shaK))) ∧ (Q (ref02_hTwice_enc (shaSum (Vector.toList (shaSum b))))))) := by kernel_rfl
theorem ref02_hTwice_w (h_0_begin : Vector UInt32 8) (h_0_k : Vector UInt32 64) (b : List UInt8) {r} {Q : CallOut → Prop} (h : ref02_hTwice h_0_begin h_0_k b = some r) (hQ : Q (ref02_hTwice_enc r)) : evalFnP ref02_hTwice_C ref02_hTwice_lv ref02_hTwice_r ref02_hTwice_hs ref02_hTwice_b [.rp (.st [.arr .u32 8 h_0_begin, .arr .u32 64 h_0_k]), .pv (.sl .u8 b)] [] Q :=
  Eq.mpr (ref02_hTwice_e h_0_begin h_0_k b Q) (have h := (ref02_hTwice_q h_0_begin h_0_k b).symm.trans h; ite_ok h fun hc0 h => ite_ok h fun hc1 h => ret_ok (Q := Q) (e := ref02_hTwice_enc) h hQ)
def ref02_hTwice_c : Ans
  | [.rp (.st [.arr .u32 8 h_0_begin, .arr .u32 64 h_0_k]), .pv (.sl .u8 b)], [] => some (some (b.length ≤ 1099511627776 ∧ h_0_begin = shaInit ∧ h_0_k = shaK), ref02_hTwice_enc (shaSum (Vector.toList (shaSum b))))
  | _, _ => none
theorem ref02_hTwice_tok : TblOK Tryd.prog theG ref02_hTwice_T := .cons ⟨by kernel_rfl, ref02_hSum_ok⟩ (.cons ⟨by kernel_rfl, ref02_List_ok⟩ (.nil))
theorem ref02_hTwice_ok : FnOK Tryd.prog theG 41 (unW ref02_hTwice_c) := by
  refine FnOK.ofC (T := ref02_hTwice_T) (nt := 11) (np := 0) (mv := []) (nf := false) (hs := ref02_hTwice_hs) (fn := Tryd.f41) (body := ref02_hTwice_b) ref02_hTwice_tok (by kernel_rfl) (by kernel_rfl) (by kernel_rfl) (by kernel_rfl) (c := ref02_hTwice_c) (lv := ref02_hTwice_lv) ?_
  intro xs mem p out h hp
  unfold ref02_hTwice_c at h
  split at h
  · cases h
    exact ref02_hTwice_w _ _ _ (ref02_hTwice_spec _ _ _ hp) rfl
  · cases h
end
end Go.Proofs.YtbdajagcinfeeaaDoor.M
