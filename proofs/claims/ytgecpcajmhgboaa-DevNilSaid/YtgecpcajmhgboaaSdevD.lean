/- Part of the proofs: what functions of the program do: plain functions, and the walks that show it. No condition. -/
import Derived.KernelRfl
import Derived.Test.YtgecpcajmhgboaaLe
import Derived.Test.YtgecpcajmhgboaaSdevS
import Derived.Test.YtgecpcajmhgboaaSdevT
import Derived.Test.YtgecpcajmhgboaaSdevA
import Derived.Test.YtgecpcajmhgboaaSdevR
set_option linter.unusedVariables false
set_option linter.unusedSimpArgs false
set_option autoImplicit false
namespace Go.Proofs.Ytgecpcajmhgboaa.M
open Go
/-! devices as they lie in memory -/
structure DV where
  now : List PV
  sure : List (PV × PV)
  writes : List PV
  done : Int
  cut : Bool
  left : Int
  dark : Bool
def DV.abs (d : DV) : AD := adOf d.now d.sure d.writes d.done d.cut d.left d.dark
def AD.conc (D : AD) : DV := ⟨D.pnow, D.psure, D.pws, D.done, D.cut, D.left, D.dark⟩
def dvC (d : DV) : Prop := adC d.now d.sure d.writes d.done d.cut d.left d.dark
def dvW (d : DV) : Prop := dvC d ∧ d.writes.length ≤ 500000000000
noncomputable instance dvC_dec (d : DV) : Decidable (dvC d) := Classical.propDecidable _
noncomputable instance dvW_dec (d : DV) : Decidable (dvW d) := Classical.propDecidable _
noncomputable def dvWrite (d : DV) (n : Int) (b : List UInt8) : Int × DV := lock ((adWrite d.abs n b).1, (adWrite d.abs n b).2.conc)
theorem dvWrite_eq (d : DV) (n : Int) (b : List UInt8) : dvWrite d n b = ((adWrite d.abs n b).1, (adWrite d.abs n b).2.conc) := lock_eq _
noncomputable def dvOn (d : DV) (k t : Int) : Int × DV := lock ((adOn d.abs k t).1, (adOn d.abs k t).2.conc)
theorem dvOn_eq (d : DV) (k t : Int) : dvOn d k t = ((adOn d.abs k t).1, (adOn d.abs k t).2.conc) := lock_eq _
noncomputable def dvRead (d : DV) (n : Int) : List UInt8 × Int := lock (adRead d.abs n)
theorem dvRead_eq (d : DV) (n : Int) : dvRead d n = adRead d.abs n := lock_eq _
noncomputable def dvNew (n : Int) : DV := lock (adNew n).conc
theorem dvNew_eq (n : Int) : dvNew n = (adNew n).conc := lock_eq _
theorem AD.abs_conc {D : AD} (h : D.ok) : D.conc.abs = D := adOf_eq h
theorem AD.dvC {D : AD} (h : D.ok) : dvC D.conc := AD.c h
theorem AD.pws_len (D : AD) : D.pws.length = D.ws.length := by show (D.ws.map wPV).length = _; simp
theorem AD.dvW {D : AD} (h : D.ok) (hw : D.ws.length ≤ 500000000000) : dvW D.conc := ⟨AD.c h, by show D.pws.length ≤ _; rw [AD.pws_len]; exact hw⟩
theorem dvWrite_conc {D : AD} (h : D.ok) (n : Int) (b : List UInt8) : dvWrite D.conc n b = ((adWrite D n b).1, (adWrite D n b).2.conc) := by rw [dvWrite_eq, AD.abs_conc h]
theorem dvOn_conc {D : AD} (h : D.ok) (k t : Int) : dvOn D.conc k t = ((adOn D k t).1, (adOn D k t).2.conc) := by rw [dvOn_eq, AD.abs_conc h]
theorem dvRead_conc {D : AD} (h : D.ok) (n : Int) : dvRead D.conc n = adRead D n := by rw [dvRead_eq, AD.abs_conc h]
/-! the document's -/
structure RV where
  sure : List PV
  after : List PV
  done : Int
  cut : Bool
  left : Int
  dark : Bool
def RV.abs (d : RV) : AD := rdOf d.sure d.after d.done d.cut d.left d.dark
def AD.rconc (D : AD) : RV := ⟨D.rsure, D.rafter, D.done, D.cut, D.left, D.dark⟩
def rvC (d : RV) : Prop := rdC d.sure d.after d.done d.cut d.left d.dark
def rvW (d : RV) : Prop := rvC d ∧ d.after.length ≤ 500000000000
noncomputable instance rvC_dec (d : RV) : Decidable (rvC d) := Classical.propDecidable _
noncomputable instance rvW_dec (d : RV) : Decidable (rvW d) := Classical.propDecidable _
theorem AD.rvC {D : AD} (h : D.ok) : rvC D.rconc := AD.rc h
theorem AD.rvW {D : AD} (h : D.ok) (hw : D.ws.length ≤ 500000000000) : rvW D.rconc := ⟨AD.rc h, by show D.rafter.length ≤ _; rw [AD.rafter_len]; exact hw⟩
end Go.Proofs.Ytgecpcajmhgboaa.M
