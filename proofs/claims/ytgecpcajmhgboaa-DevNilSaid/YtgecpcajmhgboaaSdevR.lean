/- Part of the proofs: what functions of the program do: plain functions, and the walks that show it. No condition. -/
import Derived.KernelRfl
import Derived.Test.YtgecpcajmhgboaaLe
import Derived.Test.YtgecpcajmhgboaaSdevS
import Derived.Test.YtgecpcajmhgboaaSdevT
import Derived.Test.YtgecpcajmhgboaaSdevA
set_option linter.unusedVariables false
set_option linter.unusedSimpArgs false
set_option autoImplicit false
namespace Go.Proofs.Ytgecpcajmhgboaa.M
open Go
/-! the document's device -/
def rsPV (v : Sec) : PV := .sl .u8 v.toList
def raPV (p : Int × Sec) : PV := .st [.sc .i p.1, .sl .u8 p.2.toList]
def rsOf (x : PV) : Sec := secL (PV.slv .u8 x)
def raOf (x : PV) : Int × Sec := (PV.scv .i (x.fld 0), secL (PV.slv .u8 (x.fld 1)))
theorem secL_toList (v : Sec) : secL v.toList = v := by
  apply Vector.ext
  intro i hi
  simp [secL, hi]
theorem rsOf_rsPV (v : Sec) : rsOf (rsPV v) = v := secL_toList v
theorem raOf_raPV (p : Int × Sec) : raOf (raPV p) = p := by
  show (p.1, secL p.2.toList) = p
  rw [secL_toList]
namespace AD
def rsure (D : AD) : List PV := D.base.map rsPV
def rafter (D : AD) : List PV := D.ws.map raPV
def cur (D : AD) : List Sec := overW D.base D.ws
end AD
def rdOf (sure after : List PV) (done : Int) (cut : Bool) (left : Int) (dark : Bool) : AD := ⟨sure.map rsOf, after.map raOf, done, cut, left, dark⟩
structure rdC (sure after : List PV) (done : Int) (cut : Bool) (left : Int) (dark : Bool) : Prop where
  ok : (rdOf sure after done cut left dark).ok
  c_sure : (rdOf sure after done cut left dark).rsure = sure
  c_ws : (rdOf sure after done cut left dark).rafter = after
noncomputable instance rdC_dec (sure after : List PV) (done : Int) (cut : Bool) (left : Int) (dark : Bool) : Decidable (rdC sure after done cut left dark) := Classical.propDecidable _
theorem map_rsOf (l : List Sec) : (l.map rsPV).map rsOf = l := by
  rw [List.map_map]
  conv => rhs; rw [← List.map_id l]
  exact List.map_congr_left fun v _ => rsOf_rsPV v
theorem map_raOf (l : List (Int × Sec)) : (l.map raPV).map raOf = l := by
  rw [List.map_map]
  conv => rhs; rw [← List.map_id l]
  exact List.map_congr_left fun v _ => raOf_raPV v
theorem rdOf_eq (D : AD) : rdOf D.rsure D.rafter D.done D.cut D.left D.dark = D := by
  unfold rdOf AD.rsure AD.rafter
  rw [map_rsOf, map_raOf]
theorem AD.rc {D : AD} (h : D.ok) : rdC D.rsure D.rafter D.done D.cut D.left D.dark := by
  have e := rdOf_eq D
  exact ⟨by rw [e]; exact h, by rw [e], by rw [e]⟩
theorem rdC.get {sure after : List PV} {done : Int} {cut : Bool} {left : Int} {dark : Bool} (h : rdC sure after done cut left dark) :
    ∃ D : AD, D.ok ∧ sure = D.rsure ∧ after = D.rafter ∧ done = D.done ∧ cut = D.cut ∧ left = D.left ∧ dark = D.dark := ⟨_, h.ok, h.c_sure.symm, h.c_ws.symm, rfl, rfl, rfl, rfl⟩
theorem AD.rafter_len (D : AD) : D.rafter.length = D.ws.length := by simp [AD.rafter]
noncomputable def adNew (n : Int) : AD := lock ⟨List.replicate n.toNat zsec, [], 0, false, 0, false⟩
theorem adNew_eq (n : Int) : adNew n = ⟨List.replicate n.toNat zsec, [], 0, false, 0, false⟩ := lock_eq _
def newOK (n : Int) : Bool := decide (1 ≤ n) && decide (n ≤ 16384)
end Go.Proofs.Ytgecpcajmhgboaa.M
