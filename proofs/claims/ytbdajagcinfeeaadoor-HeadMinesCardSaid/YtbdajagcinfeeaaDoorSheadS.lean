/- Part of the proofs: what functions of the program do: plain functions, and the walks that show it. No condition. -/
import Derived.KernelRfl
import Derived.Test.YtbdajagcinfeeaaDoorLe
import Derived.Test.YtbdajagcinfeeaaDoorSendS
import Derived.Test.YtbdajagcinfeeaaDoorStarS
import Derived.Test.YtbdajagcinfeeaaDoorSbigS
set_option linter.unusedVariables false
set_option linter.unusedSimpArgs false
set_option autoImplicit false
namespace Go.Proofs.YtbdajagcinfeeaaDoor.M
open Go
/-- heads of which the nonce goes on -/
def nonL (p r : Vector UInt8 32) (t b n k : UInt32) : List (Vector UInt8 32 × Vector UInt8 32 × UInt32 × UInt32 × UInt32) := (List.range k.toNat).map fun i => (p, r, t, b, n + UInt32.ofNat i)
theorem nonL_len (p r : Vector UInt8 32) (t b n k : UInt32) : (nonL p r t b n k).length = k.toNat := by simp [nonL]
/-- the first nonce that works -/
noncomputable def mineO (p r : Vector UInt8 32) (t b n : UInt32) : Nat → Option UInt32
  | 0 => none
  | m + 1 => bif meetsS (idV p r t b n) b then some n else mineO p r t b (n + 1) m
noncomputable def mnE (p r : Vector UInt8 32) (t b n k : UInt32) : Int := lock (if ofE b = 0 then (match mineO p r t b n k.toNat with
  | some _ => 0
  | none => 6) else 5)
noncomputable def mnV (p r : Vector UInt8 32) (t b n k : UInt32) (v : Vector UInt8 32) : Vector UInt8 32 := lock (if mnE p r t b n k = 0 then v else Vector.replicate 32 0)
noncomputable def mnW (p r : Vector UInt8 32) (t b n k v : UInt32) : UInt32 := lock (if mnE p r t b n k = 0 then v else 0)
noncomputable def mnN (p r : Vector UInt8 32) (t b n k : UInt32) : UInt32 := lock (if ofE b = 0 then (mineO p r t b n k.toNat).getD 0 else 0)
theorem mnE_eq (p r : Vector UInt8 32) (t b n k : UInt32) : mnE p r t b n k = (if ofE b = 0 then (match mineO p r t b n k.toNat with
  | some _ => 0
  | none => 6) else 5) := lock_eq _
theorem mnV_eq (p r : Vector UInt8 32) (t b n k : UInt32) (v : Vector UInt8 32) : mnV p r t b n k v = (if mnE p r t b n k = 0 then v else Vector.replicate 32 0) := lock_eq _
theorem mnW_eq (p r : Vector UInt8 32) (t b n k v : UInt32) : mnW p r t b n k v = (if mnE p r t b n k = 0 then v else 0) := lock_eq _
theorem mnN_eq (p r : Vector UInt8 32) (t b n k : UInt32) : mnN p r t b n k = (if ofE b = 0 then (mineO p r t b n k.toNat).getD 0 else 0) := lock_eq _
theorem mn_five {p r : Vector UInt8 32} {t b n k : UInt32} (h : ¬ ofE b = 0) : (Vector.replicate 32 (0 : UInt8), Vector.replicate 32 (0 : UInt8), (0 : UInt32), (0 : UInt32), (0 : UInt32), (5 : Int)) = (mnV p r t b n k p, mnV p r t b n k r, mnW p r t b n k t, mnW p r t b n k b, mnN p r t b n k, mnE p r t b n k) := by
  have e : mnE p r t b n k = 5 := by rw [mnE_eq, if_neg h]
  rw [mnV_eq, mnV_eq, mnW_eq, mnW_eq, mnN_eq, e, if_neg (by decide), if_neg (by decide), if_neg h]
  rfl
theorem mn_six {p r : Vector UInt8 32} {t b n k : UInt32} (h : ofE b = 0) (hm : mineO p r t b n k.toNat = none) : (Vector.replicate 32 (0 : UInt8), Vector.replicate 32 (0 : UInt8), (0 : UInt32), (0 : UInt32), (0 : UInt32), (6 : Int)) = (mnV p r t b n k p, mnV p r t b n k r, mnW p r t b n k t, mnW p r t b n k b, mnN p r t b n k, mnE p r t b n k) := by
  have e : mnE p r t b n k = 6 := by rw [mnE_eq, if_pos h, hm]
  rw [mnV_eq, mnV_eq, mnW_eq, mnW_eq, mnN_eq, e, if_neg (by decide), if_neg (by decide), if_pos h, hm]
  rfl
theorem mn_ok {p r : Vector UInt8 32} {t b n k x : UInt32} (h : ofE b = 0) (hm : mineO p r t b n k.toNat = some x) : (p, r, t, b, x, (0 : Int)) = (mnV p r t b n k p, mnV p r t b n k r, mnW p r t b n k t, mnW p r t b n k b, mnN p r t b n k, mnE p r t b n k) := by
  have e : mnE p r t b n k = 0 := by rw [mnE_eq, if_pos h, hm]
  rw [mnV_eq, mnV_eq, mnW_eq, mnW_eq, mnN_eq, e, if_pos rfl, if_pos rfl, if_pos rfl, if_pos rfl, if_pos h, hm]
  rfl
theorem range_up (p r : Vector UInt8 32) (t b n : UInt32) : ∀ m, (List.range (m + 1)).map (fun i => (p, r, t, b, n + UInt32.ofNat i)) = (p, r, t, b, n) :: (List.range m).map (fun i => (p, r, t, b, n + 1 + UInt32.ofNat i)) := by
  intro m
  rw [List.range_succ_eq_map, List.map_cons, List.map_map]
  congr 1
  · show (p, r, t, b, n + UInt32.ofNat 0) = _
    rw [show UInt32.ofNat 0 = 0 from rfl, UInt32.add_zero]
  · refine List.map_congr_left fun i _ => ?_
    show (p, r, t, b, n + UInt32.ofNat (i + 1)) = (p, r, t, b, n + 1 + UInt32.ofNat i)
    rw [UInt32.add_assoc]
    congr 5
    apply UInt32.toNat_inj.1
    rw [UInt32.toNat_add, UInt32.toNat_ofNat', UInt32.toNat_ofNat']
    show (i + 1) % 2 ^ 32 = (1 + i % 2 ^ 32) % 2 ^ 32
    omega
end Go.Proofs.YtbdajagcinfeeaaDoor.M
