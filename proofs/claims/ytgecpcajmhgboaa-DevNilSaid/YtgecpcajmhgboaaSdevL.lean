/- Part of the proofs: what functions of the program do: plain functions, and the walks that show it. No condition. -/
import Derived.KernelRfl
import Derived.Test.YtgecpcajmhgboaaLe
import Derived.Test.YtgecpcajmhgboaaSdevS
import Derived.Test.YtgecpcajmhgboaaSdevT
import Derived.Test.YtgecpcajmhgboaaSdevA
import Derived.Test.YtgecpcajmhgboaaSdevR
import Derived.Test.YtgecpcajmhgboaaSdevD
set_option linter.unusedVariables false
set_option linter.unusedSimpArgs false
set_option autoImplicit false
namespace Go.Proofs.Ytgecpcajmhgboaa.M
open Go
/-! the laws of devices -/
/-- a device that writes, not cut -/
structure Wr (D : AD) (m : Nat) : Prop where
  ok : D.ok
  base : D.base = List.replicate 16 zsec
  dark : D.dark = false
  cut : D.cut = false
  ws : D.ws.length ≤ m
theorem Wr.put {D : AD} {m : Nat} (h : Wr D m) {n : Int} (hs : D.stateE n = 0) (v : Sec) : Wr (D.put n v) (m + 1) := by
  obtain ⟨h0, h1, _⟩ := AD.state0 hs
  refine ⟨AD.put_ok h.ok v h0 h1, h.base, h.dark, h.cut, ?_⟩
  show (D.ws ++ [(n, v)]).length ≤ _
  rw [List.length_append]
  have := h.ws
  simp; omega
theorem Wr.mono {D : AD} {m m' : Nat} (h : Wr D m) (hm : m ≤ m') : Wr D m' := ⟨h.ok, h.base, h.dark, h.cut, Nat.le_trans h.ws hm⟩
end Go.Proofs.Ytgecpcajmhgboaa.M
