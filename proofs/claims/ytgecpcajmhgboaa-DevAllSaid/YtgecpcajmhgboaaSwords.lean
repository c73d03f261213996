/- Part of the proofs: what functions of the program do: plain functions, and the walks that show it. No condition. -/
import Derived.KernelRfl
import Derived.Test.YtgecpcajmhgboaaLe
set_option linter.unusedVariables false
set_option linter.unusedSimpArgs false
set_option autoImplicit false
namespace Go.Proofs.Ytgecpcajmhgboaa.M
open Go
/-! words on loops -/
section
variable {α : Type}
theorem take_next {a b : List α} {i : Nat} (d : α) (h : a.take i = b.take i) (ha : i < a.length) (hb : i < b.length) (e : a.getD i d = b.getD i d) : a.take (i + 1) = b.take (i + 1) := by
  rw [List.take_succ_eq_append_getElem ha, List.take_succ_eq_append_getElem hb, h]
  have : a[i] = b[i] := by simpa [List.getD, ha, hb] using e
  rw [this]
/-- a loop that compares -/
theorem same_loop [DecidableEq α] {H : Nat → Int → Option Bool} (d : α) {a b : List α} (hl : a.length = b.length) (h0 : ∀ k, H (k + 1) ((a.length : Nat) : Int) = some true)
    (h1 : ∀ k (i : Nat), i < a.length → a.getD i d ≠ b.getD i d → H (k + 1) (i : Int) = some false) (h2 : ∀ k (i : Nat), i < a.length → a.getD i d = b.getD i d → H (k + 1) (i : Int) = H k ((i : Int) + 1)) :
    Ev (fun k => H k 0) (decide (a = b)) := by
  have gen : ∀ m i, i + m = a.length → a.take i = b.take i → Ev (fun k => H k ((i : Nat) : Int)) (decide (a = b)) := by
    intro m
    induction m with
    | zero =>
      intro i hi ht
      rw [List.take_of_length_le (by omega), List.take_of_length_le (by omega)] at ht
      refine Ev.done fun k => ?_
      have : i = a.length := by omega
      subst this
      rw [h0, decide_eq_true ht]
    | succ m ih =>
      intro i hi ht
      by_cases e : a.getD i d = b.getD i d
      · refine Ev.step (g := fun k => H k (((i + 1 : Nat)) : Int)) (fun k => ?_) (ih (i + 1) (by omega) (take_next d ht (by omega) (by omega) e))
        rw [h2 k i (by omega) e]; rfl
      · refine Ev.done fun k => ?_
        rw [h1 k i (by omega) e, decide_eq_false (fun q => e (by rw [q]))]
  exact gen a.length 0 (by omega) rfl
theorem vget_get {n : Nat} (v : Vector α n) (j : Nat) (d : α) (h : j < n) : v.toList.getD j d = v[j] := by
  simp [List.getD, h]
end
end Go.Proofs.Ytgecpcajmhgboaa.M
