/- Part of the proofs: what functions of the program do: plain functions, and the walks that show it. No condition. -/
import Derived.KernelRfl
import Derived.Test.YtgecpcajmhgboaaLe
import Derived.Test.YtgecpcajmhgboaaSdevS
import Derived.Test.YtgecpcajmhgboaaSdevT
import Derived.Test.YtgecpcajmhgboaaSdevA
import Derived.Test.YtgecpcajmhgboaaSdevR
import Derived.Test.YtgecpcajmhgboaaSdevD
set_option linter.unusedVariables false
set_option linter.unusedSimpArgs false
set_option autoImplicit false
namespace Go.Proofs.Ytgecpcajmhgboaa.M
open Go
/-! the laws of devices -/
def actT : TY := .st [.sc .i, .sc .i, .sl .u8, .sc .u8, .sc .i, .sc .i]
def actsW (l : List PV) : Bool := l.all (TY.chk actT)
theorem actsW_at {l : List PV} (h : actsW l = true) {i : Nat} (hi : i < l.length) : TY.chk actT (l.getD i .nilp) = true := by
  rw [getD_lt _ _ _ hi]
  exact List.all_eq_true.1 h _ (List.getElem_mem hi)
theorem secs_len (l : List Sec) : (l.flatMap Vector.toList).length = l.length * 128 := by
  induction l with
  | nil => rfl
  | cons v r ih => rw [List.flatMap_cons, List.length_append, ih, List.length_cons]; simp; omega
/-- a device that writes, not cut -/
structure Wr (D : AD) (m : Nat) : Prop where
  ok : D.ok
  base : D.base = List.replicate 16 zsec
  dark : D.dark = false
  cut : D.cut = false
  ws : D.ws.length ≤ m
theorem adWrite_un {D : AD} (hc : D.cut = false) (n : Int) (b : List UInt8) : (adWrite D n b = (0, D.put n (secL b)) ∧ D.stateE n = 0) ∨ ((adWrite D n b).1 ≠ 0 ∧ (adWrite D n b).2 = D) := by
  rw [adWrite_eq]
  by_cases h1 : b.length ≠ 128
  · rw [if_pos h1]; exact .inr ⟨by show (2 : Int) ≠ 0; decide, rfl⟩
  · rw [if_neg h1]
    by_cases h2 : D.stateE n ≠ 0
    · rw [if_pos h2]; exact .inr ⟨h2, rfl⟩
    · rw [if_neg h2, if_neg (show ¬ (D.cut = true ∧ D.left = 0) from fun h => by rw [hc] at h; cases h.1)]
      exact .inl ⟨rfl, Decidable.not_not.1 h2⟩
theorem Wr.put {D : AD} {m : Nat} (h : Wr D m) {n : Int} (hs : D.stateE n = 0) (v : Sec) : Wr (D.put n v) (m + 1) := by
  obtain ⟨h0, h1, _⟩ := AD.state0 hs
  refine ⟨AD.put_ok h.ok v h0 h1, h.base, h.dark, h.cut, ?_⟩
  show (D.ws ++ [(n, v)]).length ≤ _
  rw [List.length_append]
  have := h.ws
  simp; omega
theorem Wr.mono {D : AD} {m m' : Nat} (h : Wr D m) (hm : m ≤ m') : Wr D m' := ⟨h.ok, h.base, h.dark, h.cut, Nat.le_trans h.ws hm⟩
theorem wr_new : Wr (adNew 16) 0 := ⟨adNew_ok (by decide), by rw [adNew_eq]; rfl, by rw [adNew_eq], by rw [adNew_eq], by rw [adNew_eq]; exact Nat.le_refl _⟩
end Go.Proofs.Ytgecpcajmhgboaa.M
