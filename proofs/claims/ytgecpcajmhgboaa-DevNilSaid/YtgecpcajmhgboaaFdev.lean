/- Part of the proofs: what functions of the program do: plain functions, and the walks that show it. No condition. -/
import Derived.KernelRfl
import Derived.Test.YtgecpcajmhgboaaProg
import Derived.WalkKit
import Derived.Laws.BytesArg
import Derived.Test.YtgecpcajmhgboaaLe
import Derived.Test.YtgecpcajmhgboaaSwords
import Derived.Test.YtgecpcajmhgboaaSdevS
import Derived.Test.YtgecpcajmhgboaaSdevT
import Derived.Test.YtgecpcajmhgboaaSdevA
import Derived.Test.YtgecpcajmhgboaaSdevR
import Derived.Test.YtgecpcajmhgboaaSdevD
set_option linter.unusedVariables false
set_option linter.unusedSimpArgs false
set_option autoImplicit false
namespace Go.Proofs.Ytgecpcajmhgboaa.M
open Go
noncomputable section
/-- (*moneyer/dev.Dev).off#n -/
def dev_off_n  : Bool :=
  true
theorem dev_off_n_q  : dev_off_n  = (true) := by kernel_rfl

end
end Go.Proofs.Ytgecpcajmhgboaa.M

namespace Go.Proofs.Ytgecpcajmhgboaa.M
open Go
noncomputable section
/-- (*moneyer/dev.Dev).state -/
def dev_state (now : List PV) (sure : List (PV × PV)) (writes : List PV) (done : Int) (cut : Bool) (left : Int) (dark : Bool) (n : Int) : Option (Int × Int × Bool × Int × Bool × List PV × (List (PV × PV)) × List PV) :=
  bif eqb (decide (n < (0 : Int))) false then (bif bif false then true else (decide ((((List.length now) : Nat) : Int) ≤ n)) then (if (((PV.flats writes) = true) ∧ (((PV.flats (List.map (fun (z9 : PV × PV) => (Prod.fst z9)) sure)) && (PV.flats (List.map (fun (z9 : PV × PV) => (Prod.snd z9)) sure))) = true)) ∧ ((PV.flats now) = true) then
        some ((2 : Int), done, cut, left, dark, now, sure, writes)
      else none)
      else (bif dark then (if (((PV.flats writes) = true) ∧ (((PV.flats (List.map (fun (z9 : PV × PV) => (Prod.fst z9)) sure)) && (PV.flats (List.map (fun (z9 : PV × PV) => (Prod.snd z9)) sure))) = true)) ∧ ((PV.flats now) = true) then
          some ((12 : Int), done, cut, left, dark, now, sure, writes)
        else none)
        else (if (((PV.flats writes) = true) ∧ (((PV.flats (List.map (fun (z9 : PV × PV) => (Prod.fst z9)) sure)) && (PV.flats (List.map (fun (z9 : PV × PV) => (Prod.snd z9)) sure))) = true)) ∧ ((PV.flats now) = true) then
          some ((0 : Int), done, cut, left, dark, now, sure, writes)
        else none)))
    else (if (((PV.flats writes) = true) ∧ (((PV.flats (List.map (fun (z9 : PV × PV) => (Prod.fst z9)) sure)) && (PV.flats (List.map (fun (z9 : PV × PV) => (Prod.snd z9)) sure))) = true)) ∧ ((PV.flats now) = true) then
      some ((2 : Int), done, cut, left, dark, now, sure, writes)
    else none)
theorem dev_state_q (now : List PV) (sure : List (PV × PV)) (writes : List PV) (done : Int) (cut : Bool) (left : Int) (dark : Bool) (n : Int) : dev_state now sure writes done cut left dark n = (bif eqb (decide (n < (0 : Int))) false then (bif bif false then true else (decide ((((List.length now) : Nat) : Int) ≤ n)) then (if (((PV.flats writes) = true) ∧ (((PV.flats (List.map (fun (z9 : PV × PV) => (Prod.fst z9)) sure)) && (PV.flats (List.map (fun (z9 : PV × PV) => (Prod.snd z9)) sure))) = true)) ∧ ((PV.flats now) = true) then
        some ((2 : Int), done, cut, left, dark, now, sure, writes)
      else none)
      else (bif dark then (if (((PV.flats writes) = true) ∧ (((PV.flats (List.map (fun (z9 : PV × PV) => (Prod.fst z9)) sure)) && (PV.flats (List.map (fun (z9 : PV × PV) => (Prod.snd z9)) sure))) = true)) ∧ ((PV.flats now) = true) then
          some ((12 : Int), done, cut, left, dark, now, sure, writes)
        else none)
        else (if (((PV.flats writes) = true) ∧ (((PV.flats (List.map (fun (z9 : PV × PV) => (Prod.fst z9)) sure)) && (PV.flats (List.map (fun (z9 : PV × PV) => (Prod.snd z9)) sure))) = true)) ∧ ((PV.flats now) = true) then
          some ((0 : Int), done, cut, left, dark, now, sure, writes)
        else none)))
    else (if (((PV.flats writes) = true) ∧ (((PV.flats (List.map (fun (z9 : PV × PV) => (Prod.fst z9)) sure)) && (PV.flats (List.map (fun (z9 : PV × PV) => (Prod.snd z9)) sure))) = true)) ∧ ((PV.flats now) = true) then
      some ((2 : Int), done, cut, left, dark, now, sure, writes)
    else none)) := by kernel_rfl
theorem dev_state_spec (now : List PV) (sure : List (PV × PV)) (writes : List PV) (done : Int) (cut : Bool) (left : Int) (dark : Bool) (n : Int) (hp : devB now sure writes = true) :
    dev_state now sure writes done cut left dark n = some (stateV now dark n, done, cut, left, dark, now, sure, writes) := by
  rw [dev_state_q, if_pos (devB_flats hp), if_pos (devB_flats hp), if_pos (devB_flats hp), stateV_eq]
  by_cases h1 : n < 0
  · rw [decide_eq_true h1, if_pos (.inl h1)]; rfl
  · by_cases h2 : ((now.length : Nat) : Int) ≤ n
    · rw [decide_eq_false h1, decide_eq_true h2, if_pos (.inr h2)]; rfl
    · rw [decide_eq_false h1, decide_eq_false h2, if_neg (by omega)]
      cases dark <;> rfl

end
end Go.Proofs.Ytgecpcajmhgboaa.M

namespace Go.Proofs.Ytgecpcajmhgboaa.M
open Go
noncomputable section
/-- (*moneyer/dev.Dev).Read#n -/
def dev_Read_n (n : Int) : Int × List UInt8 :=
  ((1 : Int), ([] : List UInt8))
theorem dev_Read_n_q (n : Int) : dev_Read_n n = (((1 : Int), ([] : List UInt8))) := by kernel_rfl

end
end Go.Proofs.Ytgecpcajmhgboaa.M

namespace Go.Proofs.Ytgecpcajmhgboaa.M
open Go
noncomputable section
/-- (*moneyer/dev.Dev).off#z -/
def dev_off_z  : Bool :=
  true
theorem dev_off_z_q  : dev_off_z  = (true) := by kernel_rfl

end
end Go.Proofs.Ytgecpcajmhgboaa.M

namespace Go.Proofs.Ytgecpcajmhgboaa.M
open Go
noncomputable section
/-- (*moneyer/dev.Dev).Read#z -/
def dev_Read_z (n : Int) : Int × List UInt8 :=
  ((1 : Int), ([] : List UInt8))
theorem dev_Read_z_q (n : Int) : dev_Read_z n = (((1 : Int), ([] : List UInt8))) := by kernel_rfl

end
end Go.Proofs.Ytgecpcajmhgboaa.M



namespace Go.Proofs.Ytgecpcajmhgboaa.M
open Go
noncomputable section
/-- (*moneyer/dev.Dev).lose -/
def dev_lose (now : List PV) (sure : List (PV × PV)) (writes : List PV) (done : Int) (cut : Bool) (left : Int) (dark : Bool) : Option (Int × Bool × Int × Bool × List PV × (List (PV × PV)) × List PV) :=
  if devC now sure writes then
    if (((PV.flats writes) = true) ∧ (((PV.flats (List.map (fun (z8 : PV × PV) => (Prod.fst z8)) ([] : List (PV × PV)))) && (PV.flats (List.map (fun (z8 : PV × PV) => (Prod.snd z8)) ([] : List (PV × PV))))) = true)) ∧ ((PV.flats (backV now sure)) = true) then
      some (done, cut, left, true, (backV now sure), ([] : List (PV × PV)), writes)
    else none
  else none
theorem dev_lose_q (now : List PV) (sure : List (PV × PV)) (writes : List PV) (done : Int) (cut : Bool) (left : Int) (dark : Bool) : dev_lose now sure writes done cut left dark = (if devC now sure writes then
    if (((PV.flats writes) = true) ∧ (((PV.flats (List.map (fun (z8 : PV × PV) => (Prod.fst z8)) ([] : List (PV × PV)))) && (PV.flats (List.map (fun (z8 : PV × PV) => (Prod.snd z8)) ([] : List (PV × PV))))) = true)) ∧ ((PV.flats (backV now sure)) = true) then
      some (done, cut, left, true, (backV now sure), ([] : List (PV × PV)), writes)
    else none
  else none) := by kernel_rfl
theorem dev_lose_spec (now : List PV) (sure : List (PV × PV)) (writes : List PV) (done : Int) (cut : Bool) (left : Int) (dark : Bool) (hp : devC now sure writes) :
    dev_lose now sure writes done cut left dark = some (done, cut, left, true, backV now sure, [], writes) := by
  obtain ⟨d1, d2, d3⟩ := devB_iff.1 hp.b
  rw [dev_lose_q, if_pos hp, if_pos ⟨⟨wrB_flats d3, rfl⟩, secB_flats (backV_secB d1 d2)⟩]

end
end Go.Proofs.Ytgecpcajmhgboaa.M

namespace Go.Proofs.Ytgecpcajmhgboaa.M
open Go
noncomputable section
/-- (*moneyer/dev.Dev).set -/
def dev_set (now : List PV) (sure : List (PV × PV)) (writes : List PV) (done : Int) (cut : Bool) (left : Int) (dark : Bool) (n : Int) (b : Vector UInt8 128) : Option (Int × Bool × Int × Bool × List PV × (List (PV × PV)) × List PV) :=
  if ((allSc EK.i sure) = true) ∧ (((List.all sure (fun (z10 : PV × PV) => ((PV.isAgg (Prod.snd z10)) == (PV.isAgg (PV.arr EK.u8 (128 : Nat) (Vector.replicate (128 : Nat) (0 : UInt8))))))) = true) ∧ ((TY.chk (TY.arr EK.u8 (128 : Nat)) (Option.getD (mget sure (PV.sc EK.i n)) (PV.arr EK.u8 (128 : Nat) (Vector.replicate (128 : Nat) (0 : UInt8))))) = true)) then
    bif !(Option.isSome (mget sure (PV.sc EK.i n))) then (if ((0 : Int) ≤ n) ∧ (n < (((List.length now) : Nat) : Int)) then
        if (TY.chk (TY.arr EK.u8 (128 : Nat)) (RC.get (RC.p (128 : Nat) now) ([(PE.i (Int.toNat n))] : List PE))) = true then
          if (allSc EK.i sure) = true then
            if (PV.size (List.getD now (Int.toNat n) PV.nilp)) = (128 : Nat) then
              if (((PV.flats writes) = true) ∧ (((PV.flats (List.map (fun (z10 : PV × PV) => (Prod.fst z10)) (mset sure (PV.sc EK.i n) (TY.eta (TY.arr EK.u8 (128 : Nat)) (RC.get (RC.p (128 : Nat) now) ([(PE.i (Int.toNat n))] : List PE)))))) && (PV.flats (List.map (fun (z10 : PV × PV) => (Prod.snd z10)) (mset sure (PV.sc EK.i n) (TY.eta (TY.arr EK.u8 (128 : Nat)) (RC.get (RC.p (128 : Nat) now) ([(PE.i (Int.toNat n))] : List PE))))))) = true)) ∧ ((PV.flats (List.set now (Int.toNat n) (PV.arr EK.u8 (128 : Nat) b))) = true) then
                some (done, cut, left, dark, (List.set now (Int.toNat n) (PV.arr EK.u8 (128 : Nat) b)), (mset sure (PV.sc EK.i n) (TY.eta (TY.arr EK.u8 (128 : Nat)) (RC.get (RC.p (128 : Nat) now) ([(PE.i (Int.toNat n))] : List PE)))), writes)
              else none
            else none
          else none
        else none
      else none)
      else (if ((0 : Int) ≤ n) ∧ (n < (((List.length now) : Nat) : Int)) then
        if (PV.size (List.getD now (Int.toNat n) PV.nilp)) = (128 : Nat) then
          if (((PV.flats writes) = true) ∧ (((PV.flats (List.map (fun (z10 : PV × PV) => (Prod.fst z10)) sure)) && (PV.flats (List.map (fun (z10 : PV × PV) => (Prod.snd z10)) sure))) = true)) ∧ ((PV.flats (List.set now (Int.toNat n) (PV.arr EK.u8 (128 : Nat) b))) = true) then
            some (done, cut, left, dark, (List.set now (Int.toNat n) (PV.arr EK.u8 (128 : Nat) b)), sure, writes)
          else none
        else none
      else none)
  else none
theorem dev_set_q (now : List PV) (sure : List (PV × PV)) (writes : List PV) (done : Int) (cut : Bool) (left : Int) (dark : Bool) (n : Int) (b : Vector UInt8 128) : dev_set now sure writes done cut left dark n b = (if ((allSc EK.i sure) = true) ∧ (((List.all sure (fun (z10 : PV × PV) => ((PV.isAgg (Prod.snd z10)) == (PV.isAgg (PV.arr EK.u8 (128 : Nat) (Vector.replicate (128 : Nat) (0 : UInt8))))))) = true) ∧ ((TY.chk (TY.arr EK.u8 (128 : Nat)) (Option.getD (mget sure (PV.sc EK.i n)) (PV.arr EK.u8 (128 : Nat) (Vector.replicate (128 : Nat) (0 : UInt8))))) = true)) then
    bif !(Option.isSome (mget sure (PV.sc EK.i n))) then (if ((0 : Int) ≤ n) ∧ (n < (((List.length now) : Nat) : Int)) then
        if (TY.chk (TY.arr EK.u8 (128 : Nat)) (RC.get (RC.p (128 : Nat) now) ([(PE.i (Int.toNat n))] : List PE))) = true then
          if (allSc EK.i sure) = true then
            if (PV.size (List.getD now (Int.toNat n) PV.nilp)) = (128 : Nat) then
              if (((PV.flats writes) = true) ∧ (((PV.flats (List.map (fun (z10 : PV × PV) => (Prod.fst z10)) (mset sure (PV.sc EK.i n) (TY.eta (TY.arr EK.u8 (128 : Nat)) (RC.get (RC.p (128 : Nat) now) ([(PE.i (Int.toNat n))] : List PE)))))) && (PV.flats (List.map (fun (z10 : PV × PV) => (Prod.snd z10)) (mset sure (PV.sc EK.i n) (TY.eta (TY.arr EK.u8 (128 : Nat)) (RC.get (RC.p (128 : Nat) now) ([(PE.i (Int.toNat n))] : List PE))))))) = true)) ∧ ((PV.flats (List.set now (Int.toNat n) (PV.arr EK.u8 (128 : Nat) b))) = true) then
                some (done, cut, left, dark, (List.set now (Int.toNat n) (PV.arr EK.u8 (128 : Nat) b)), (mset sure (PV.sc EK.i n) (TY.eta (TY.arr EK.u8 (128 : Nat)) (RC.get (RC.p (128 : Nat) now) ([(PE.i (Int.toNat n))] : List PE)))), writes)
              else none
            else none
          else none
        else none
      else none)
      else (if ((0 : Int) ≤ n) ∧ (n < (((List.length now) : Nat) : Int)) then
        if (PV.size (List.getD now (Int.toNat n) PV.nilp)) = (128 : Nat) then
          if (((PV.flats writes) = true) ∧ (((PV.flats (List.map (fun (z10 : PV × PV) => (Prod.fst z10)) sure)) && (PV.flats (List.map (fun (z10 : PV × PV) => (Prod.snd z10)) sure))) = true)) ∧ ((PV.flats (List.set now (Int.toNat n) (PV.arr EK.u8 (128 : Nat) b))) = true) then
            some (done, cut, left, dark, (List.set now (Int.toNat n) (PV.arr EK.u8 (128 : Nat) b)), sure, writes)
          else none
        else none
      else none)
  else none) := by kernel_rfl
theorem dev_set_spec (now : List PV) (sure : List (PV × PV)) (writes : List PV) (done : Int) (cut : Bool) (left : Int) (dark : Bool) (n : Int) (b : Vector UInt8 128) (hp : devB now sure writes = true ∧ 0 ≤ n ∧ n < now.length) :
    dev_set now sure writes done cut left dark n b = some (done, cut, left, dark, now.set n.toNat (.arr .u8 128 b), sureSet sure n (now.getD n.toNat .nilp), writes) := by
  obtain ⟨h0, h1, h2⟩ := hp
  obtain ⟨d1, d2, d3⟩ := devB_iff.1 h0
  have hi : n.toNat < now.length := by omega
  have hg : RC.get (RC.p 128 now) [PE.i n.toNat] = now.getD n.toNat .nilp := by
    show PV.get (now.getD n.toNat .nilp) [] = _
    exact PV.get_nil _
  have hc : TY.chk (TY.arr .u8 128) (now.getD n.toNat .nilp) = true := secB_at d1 hi
  have he : TY.eta (TY.arr .u8 128) (now.getD n.toNat .nilp) = now.getD n.toNat .nilp := TY.chk_eta hc
  have hb : TY.chk secT (.arr .u8 128 b) = true := rfl
  have hsz : PV.size (now.getD n.toNat .nilp) = 128 := by
    obtain ⟨v, hv⟩ := sec_of hc
    rw [hv]; rfl
  have hagg : (List.all sure fun z => (PV.isAgg z.2) == (PV.isAgg (.arr .u8 128 (Vector.replicate 128 0)))) = true := List.all_eq_true.2 fun p hp => by
    obtain ⟨m, v, rfl⟩ := sureB_at d2 hp
    rfl
  have hgd : TY.chk (TY.arr .u8 128) (Option.getD (mget sure (.sc .i n)) (.arr .u8 128 (Vector.replicate 128 0))) = true := by
    cases hm : mget sure (.sc .i n) with
    | none => rfl
    | some v => exact mget_sec d2 hm
  have hs2 := secB_set d1 n.toNat hb
  rw [dev_set_q, if_pos ⟨sureB_allSc d2, hagg, hgd⟩]
  simp only [hg, he]
  rw [if_pos ⟨h1, h2⟩, if_pos hc, if_pos (sureB_allSc d2), if_pos hsz, if_pos (devB_flats (devB_iff.2 ⟨hs2, mset_sureB n d2 hc, d3⟩)), if_pos ⟨h1, h2⟩, if_pos hsz, if_pos (devB_flats (devB_iff.2 ⟨hs2, d2, d3⟩))]
  unfold sureSet
  cases (mget sure (.sc .i n)).isSome <;> rfl

end
end Go.Proofs.Ytgecpcajmhgboaa.M

namespace Go.Proofs.Ytgecpcajmhgboaa.M
open Go
noncomputable section
/-- (*moneyer/dev.Dev).Write#n -/
def dev_Write_n (n : Int) (b : List UInt8) : Int :=
  (1 : Int)
theorem dev_Write_n_q (n : Int) (b : List UInt8) : dev_Write_n n b = ((1 : Int)) := by kernel_rfl

end
end Go.Proofs.Ytgecpcajmhgboaa.M

namespace Go.Proofs.Ytgecpcajmhgboaa.M
open Go
noncomputable section
/-- (*moneyer/dev.Dev).Write#z -/
def dev_Write_z (n : Int) (b : List UInt8) : Int :=
  (1 : Int)
theorem dev_Write_z_q (n : Int) (b : List UInt8) : dev_Write_z n b = ((1 : Int)) := by kernel_rfl

end
end Go.Proofs.Ytgecpcajmhgboaa.M

namespace Go.Proofs.Ytgecpcajmhgboaa.M
open Go
noncomputable section
/-- (*moneyer/dev.Dev).Sync#n -/
def dev_Sync_n  : Int :=
  (1 : Int)
theorem dev_Sync_n_q  : dev_Sync_n  = ((1 : Int)) := by kernel_rfl

end
end Go.Proofs.Ytgecpcajmhgboaa.M

namespace Go.Proofs.Ytgecpcajmhgboaa.M
open Go
noncomputable section
/-- (*moneyer/dev.Dev).Sync#z -/
def dev_Sync_z  : Int :=
  (1 : Int)
theorem dev_Sync_z_q  : dev_Sync_z  = ((1 : Int)) := by kernel_rfl

end
end Go.Proofs.Ytgecpcajmhgboaa.M

namespace Go.Proofs.Ytgecpcajmhgboaa.M
open Go
noncomputable section
/-- (*moneyer/dev.Dev).Cut#n -/
def dev_Cut_n (after : Int) : Int :=
  (1 : Int)
theorem dev_Cut_n_q (after : Int) : dev_Cut_n after = ((1 : Int)) := by kernel_rfl

end
end Go.Proofs.Ytgecpcajmhgboaa.M

namespace Go.Proofs.Ytgecpcajmhgboaa.M
open Go
noncomputable section
/-- (*moneyer/dev.Dev).Cut#z -/
def dev_Cut_z (after : Int) : Int :=
  (1 : Int)
theorem dev_Cut_z_q (after : Int) : dev_Cut_z after = ((1 : Int)) := by kernel_rfl

end
end Go.Proofs.Ytgecpcajmhgboaa.M

namespace Go.Proofs.Ytgecpcajmhgboaa.M
open Go
noncomputable section
/-- (*moneyer/dev.Dev).On#n -/
def dev_On_n (keep : Int) (torn : Int) : Int :=
  (1 : Int)
theorem dev_On_n_q (keep : Int) (torn : Int) : dev_On_n keep torn = ((1 : Int)) := by kernel_rfl

end
end Go.Proofs.Ytgecpcajmhgboaa.M

namespace Go.Proofs.Ytgecpcajmhgboaa.M
open Go
noncomputable section
/-- (*moneyer/dev.Dev).On#z -/
def dev_On_z (keep : Int) (torn : Int) : Int :=
  (1 : Int)
theorem dev_On_z_q (keep : Int) (torn : Int) : dev_On_z keep torn = ((1 : Int)) := by kernel_rfl

end
end Go.Proofs.Ytgecpcajmhgboaa.M

namespace Go.Proofs.Ytgecpcajmhgboaa.M
open Go
noncomputable section
/-- (*moneyer/dev.Dev).Sectors#n -/
def dev_Sectors_n  : Int :=
  (0 : Int)
theorem dev_Sectors_n_q  : dev_Sectors_n  = ((0 : Int)) := by kernel_rfl

end
end Go.Proofs.Ytgecpcajmhgboaa.M

namespace Go.Proofs.Ytgecpcajmhgboaa.M
open Go
noncomputable section
/-- (*moneyer/dev.Dev).Sectors#z -/
def dev_Sectors_z  : Int :=
  (0 : Int)
theorem dev_Sectors_z_q  : dev_Sectors_z  = ((0 : Int)) := by kernel_rfl

end
end Go.Proofs.Ytgecpcajmhgboaa.M

namespace Go.Proofs.Ytgecpcajmhgboaa.M
open Go
noncomputable section
/-- (*moneyer/dev.Dev).Writes#n -/
def dev_Writes_n  : Int :=
  (0 : Int)
theorem dev_Writes_n_q  : dev_Writes_n  = ((0 : Int)) := by kernel_rfl

end
end Go.Proofs.Ytgecpcajmhgboaa.M

namespace Go.Proofs.Ytgecpcajmhgboaa.M
open Go
noncomputable section
/-- (*moneyer/dev.Dev).Writes#z -/
def dev_Writes_z  : Int :=
  (0 : Int)
theorem dev_Writes_z_q  : dev_Writes_z  = ((0 : Int)) := by kernel_rfl

end
end Go.Proofs.Ytgecpcajmhgboaa.M

namespace Go.Proofs.Ytgecpcajmhgboaa.M
open Go
noncomputable section
/-- (*moneyer/dev.Dev).Image#n -/
def dev_Image_n  : List UInt8 :=
  ([] : List UInt8)
theorem dev_Image_n_q  : dev_Image_n  = (([] : List UInt8)) := by kernel_rfl

end
end Go.Proofs.Ytgecpcajmhgboaa.M

namespace Go.Proofs.Ytgecpcajmhgboaa.M
open Go
noncomputable section
/-- (*moneyer/dev.Dev).Image#z -/
def dev_Image_z  : List UInt8 :=
  ([] : List UInt8)
theorem dev_Image_z_q  : dev_Image_z  = (([] : List UInt8)) := by kernel_rfl

end
end Go.Proofs.Ytgecpcajmhgboaa.M

namespace Go.Proofs.Ytgecpcajmhgboaa.M
open Go
noncomputable section
abbrev dev_New_R := (Int) ⊕ (Int × Int × Bool × Int × Bool × List PV × (List (PV × PV)) × List PV)
/-- moneyer/dev.New -/
def dev_New (sectors : Int) : Option (dev_New_R) :=
  bif eqb (decide (sectors < (1 : Int))) false then (bif bif false then true else (decide ((16384 : Int) < sectors)) then (some (.inl (2 : Int)))
      else (if ((0 : Int) ≤ sectors) ∧ ((sectors ≤ sectors) ∧ (((sectors * (((128 : Nat) : Nat) : Int)) ≤ (((70368744177664 : Nat) : Nat) : Int)) ∧ (sectors ≤ ((2 : Int) ^ (62 : Nat))))) then
        if (((PV.flats ([] : List PV)) = true) ∧ (((PV.flats (List.map (fun (z2 : PV × PV) => (Prod.fst z2)) ([] : List (PV × PV)))) && (PV.flats (List.map (fun (z2 : PV × PV) => (Prod.snd z2)) ([] : List (PV × PV))))) = true)) ∧ ((PV.flats (List.replicate (Int.toNat sectors) (PV.arr EK.u8 (128 : Nat) (Vector.replicate (128 : Nat) (0 : UInt8))))) = true) then
          some (.inr ((0 : Int), (0 : Int), false, (0 : Int), false, (List.replicate (Int.toNat sectors) (PV.arr EK.u8 (128 : Nat) (Vector.replicate (128 : Nat) (0 : UInt8)))), ([] : List (PV × PV)), ([] : List PV)))
        else none
      else none))
    else (some (.inl (2 : Int)))
theorem dev_New_q (sectors : Int) : dev_New sectors = (bif eqb (decide (sectors < (1 : Int))) false then (bif bif false then true else (decide ((16384 : Int) < sectors)) then (some (.inl (2 : Int)))
      else (if ((0 : Int) ≤ sectors) ∧ ((sectors ≤ sectors) ∧ (((sectors * (((128 : Nat) : Nat) : Int)) ≤ (((70368744177664 : Nat) : Nat) : Int)) ∧ (sectors ≤ ((2 : Int) ^ (62 : Nat))))) then
        if (((PV.flats ([] : List PV)) = true) ∧ (((PV.flats (List.map (fun (z2 : PV × PV) => (Prod.fst z2)) ([] : List (PV × PV)))) && (PV.flats (List.map (fun (z2 : PV × PV) => (Prod.snd z2)) ([] : List (PV × PV))))) = true)) ∧ ((PV.flats (List.replicate (Int.toNat sectors) (PV.arr EK.u8 (128 : Nat) (Vector.replicate (128 : Nat) (0 : UInt8))))) = true) then
          some (.inr ((0 : Int), (0 : Int), false, (0 : Int), false, (List.replicate (Int.toNat sectors) (PV.arr EK.u8 (128 : Nat) (Vector.replicate (128 : Nat) (0 : UInt8)))), ([] : List (PV × PV)), ([] : List PV)))
        else none
      else none))
    else (some (.inl (2 : Int)))) := by kernel_rfl
theorem dev_New_spec (sectors : Int) : dev_New sectors = some (bif newOK sectors then .inr (0, (adNew sectors).done, (adNew sectors).cut, (adNew sectors).left, (adNew sectors).dark, (adNew sectors).pnow, (adNew sectors).psure, (adNew sectors).pws) else .inl 2) := by
  rw [dev_New_q, adNew_eq]
  unfold newOK
  by_cases h1 : sectors < 1
  · rw [decide_eq_true h1, decide_eq_false (show ¬ 1 ≤ sectors by omega)]
    rfl
  · rw [decide_eq_false h1, decide_eq_true (show 1 ≤ sectors by omega)]
    by_cases h2 : 16384 < sectors
    · rw [decide_eq_true h2, decide_eq_false (show ¬ sectors ≤ 16384 by omega)]
      rfl
    · rw [decide_eq_false h2, decide_eq_true (show sectors ≤ 16384 by omega)]
      have e : List.map sPV (List.replicate sectors.toNat zsec) = List.replicate sectors.toNat (PV.arr EK.u8 128 (Vector.replicate 128 0)) := by rw [List.map_replicate]; rfl
      have hf : PV.flats (List.replicate sectors.toNat (PV.arr EK.u8 128 (Vector.replicate 128 0))) = true := by
        rw [← e]
        exact secB_flats (List.all_eq_true.2 fun x hx => by obtain ⟨v, _, rfl⟩ := List.mem_map.1 hx; rfl)
      show (if ((0 : Int) ≤ sectors) ∧ ((sectors ≤ sectors) ∧ (((sectors * (((128 : Nat) : Nat) : Int)) ≤ (((70368744177664 : Nat) : Nat) : Int)) ∧ (sectors ≤ ((2 : Int) ^ (62 : Nat))))) then _ else none) = _
      rw [if_pos ⟨by omega, by omega, by omega, by omega⟩, if_pos ⟨⟨rfl, rfl⟩, hf⟩, ← e]
      rfl
/-- over memory -/
theorem dev_New_specD (n : Int) : dev_New n = some (bif newOK n then .inr (0, (dvNew n).done, (dvNew n).cut, (dvNew n).left, (dvNew n).dark, (dvNew n).now, (dvNew n).sure, (dvNew n).writes) else .inl 2) := by
  rw [dvNew_eq]
  exact dev_New_spec n

end
end Go.Proofs.Ytgecpcajmhgboaa.M

namespace Go.Proofs.Ytgecpcajmhgboaa.M
open Go
noncomputable section
/-- (*moneyer/dev.Dev).off -/
def dev_off (now : List PV) (sure : List (PV × PV)) (writes : List PV) (done : Int) (cut : Bool) (left : Int) (dark : Bool) : Option (Bool × Int × Bool × Int × Bool × List PV × (List (PV × PV)) × List PV) :=
  if (((PV.flats writes) = true) ∧ (((PV.flats (List.map (fun (z8 : PV × PV) => (Prod.fst z8)) sure)) && (PV.flats (List.map (fun (z8 : PV × PV) => (Prod.snd z8)) sure))) = true)) ∧ ((PV.flats now) = true) then
    some (false, done, cut, left, dark, now, sure, writes)
  else none
theorem dev_off_q (now : List PV) (sure : List (PV × PV)) (writes : List PV) (done : Int) (cut : Bool) (left : Int) (dark : Bool) : dev_off now sure writes done cut left dark = (if (((PV.flats writes) = true) ∧ (((PV.flats (List.map (fun (z8 : PV × PV) => (Prod.fst z8)) sure)) && (PV.flats (List.map (fun (z8 : PV × PV) => (Prod.snd z8)) sure))) = true)) ∧ ((PV.flats now) = true) then
    some (false, done, cut, left, dark, now, sure, writes)
  else none) := by kernel_rfl
theorem dev_off_spec (now : List PV) (sure : List (PV × PV)) (writes : List PV) (done : Int) (cut : Bool) (left : Int) (dark : Bool) (hp : devB now sure writes = true) : dev_off now sure writes done cut left dark = some (false, done, cut, left, dark, now, sure, writes) := by
  rw [dev_off_q, if_pos (devB_flats hp)]

end
end Go.Proofs.Ytgecpcajmhgboaa.M

namespace Go.Proofs.Ytgecpcajmhgboaa.M
open Go
noncomputable section
/-- (*moneyer/dev.Dev).Write -/
def dev_Write (now : List PV) (sure : List (PV × PV)) (writes : List PV) (done : Int) (cut : Bool) (left : Int) (dark : Bool) (n : Int) (b : List UInt8) : Option (Int × Int × Bool × Int × Bool × List PV × (List (PV × PV)) × List PV) :=
  if (devB now sure writes) = true then
    bif !(decide ((((List.length b) : Nat) : Int) = (128 : Int))) then (if (((PV.flats writes) = true) ∧ (((PV.flats (List.map (fun (z10 : PV × PV) => (Prod.fst z10)) sure)) && (PV.flats (List.map (fun (z10 : PV × PV) => (Prod.snd z10)) sure))) = true)) ∧ ((PV.flats now) = true) then
        some ((2 : Int), done, cut, left, dark, now, sure, writes)
      else none)
      else (bif !(decide ((stateV now dark n) = (0 : Int))) then (if (((PV.flats writes) = true) ∧ (((PV.flats (List.map (fun (z10 : PV × PV) => (Prod.fst z10)) sure)) && (PV.flats (List.map (fun (z10 : PV × PV) => (Prod.snd z10)) sure))) = true)) ∧ ((PV.flats now) = true) then
          some ((stateV now dark n), done, cut, left, dark, now, sure, writes)
        else none)
        else (bif cut then (bif bif true then (decide (left = (0 : Int))) else false then (if devC now sure writes then
              if (((PV.flats writes) = true) ∧ (((PV.flats (List.map (fun (z10 : PV × PV) => (Prod.fst z10)) ([] : List (PV × PV)))) && (PV.flats (List.map (fun (z10 : PV × PV) => (Prod.snd z10)) ([] : List (PV × PV))))) = true)) ∧ ((PV.flats (backV now sure)) = true) then
                some ((12 : Int), done, cut, left, true, (backV now sure), ([] : List (PV × PV)), writes)
              else none
            else none)
            else (if ((128 : Nat) ≤ (List.length b)) ∧ ((0 : Nat) < (128 : Nat)) then
              if ((devB now sure writes) = true) ∧ (((0 : Int) ≤ n) ∧ (n < (((List.length now) : Nat) : Int))) then
                if (((List.length (writes ++ ([(PV.st (List.set (List.set (List.reverse ([(PV.arr EK.u8 (128 : Nat) (Vector.replicate (128 : Nat) (0 : UInt8))), (PV.sc EK.i (0 : Int))] : List PV)) (0 : Nat) (PV.sc EK.i n)) (1 : Nat) (RC.arr (0 : Nat) (128 : Nat) (RC.s EK.u8 b))))] : List PV))) * (136 : Nat)) ≤ (70368744177664 : Nat)) ∧ ((List.length (writes ++ ([(PV.st (List.set (List.set (List.reverse ([(PV.arr EK.u8 (128 : Nat) (Vector.replicate (128 : Nat) (0 : UInt8))), (PV.sc EK.i (0 : Int))] : List PV)) (0 : Nat) (PV.sc EK.i n)) (1 : Nat) (RC.arr (0 : Nat) (128 : Nat) (RC.s EK.u8 b))))] : List PV))) ≤ (70368744177664 : Nat)) then
                  if (((PV.flats (writes ++ ([(PV.st (List.set (List.set (List.reverse ([(PV.arr EK.u8 (128 : Nat) (Vector.replicate (128 : Nat) (0 : UInt8))), (PV.sc EK.i (0 : Int))] : List PV)) (0 : Nat) (PV.sc EK.i n)) (1 : Nat) (RC.arr (0 : Nat) (128 : Nat) (RC.s EK.u8 b))))] : List PV))) = true) ∧ (((PV.flats (List.map (fun (z10 : PV × PV) => (Prod.fst z10)) (sureSet sure n (List.getD now (Int.toNat n) PV.nilp)))) && (PV.flats (List.map (fun (z10 : PV × PV) => (Prod.snd z10)) (sureSet sure n (List.getD now (Int.toNat n) PV.nilp))))) = true)) ∧ ((PV.flats (List.set now (Int.toNat n) (PV.arr EK.u8 (128 : Nat) (Vector.ofFn (fun (z10 : Fin 128) => (List.getD b ((0 : Nat) + (Fin.val z10)) (0 : UInt8))))))) = true) then
                    some ((0 : Int), (w64 (done + (1 : Int))), cut, (w64 (left - (1 : Int))), dark, (List.set now (Int.toNat n) (PV.arr EK.u8 (128 : Nat) (Vector.ofFn (fun (z10 : Fin 128) => (List.getD b ((0 : Nat) + (Fin.val z10)) (0 : UInt8)))))), (sureSet sure n (List.getD now (Int.toNat n) PV.nilp)), (writes ++ ([(PV.st (List.set (List.set (List.reverse ([(PV.arr EK.u8 (128 : Nat) (Vector.replicate (128 : Nat) (0 : UInt8))), (PV.sc EK.i (0 : Int))] : List PV)) (0 : Nat) (PV.sc EK.i n)) (1 : Nat) (RC.arr (0 : Nat) (128 : Nat) (RC.s EK.u8 b))))] : List PV)))
                  else none
                else none
              else none
            else none))
          else (if ((128 : Nat) ≤ (List.length b)) ∧ ((0 : Nat) < (128 : Nat)) then
            if ((devB now sure writes) = true) ∧ (((0 : Int) ≤ n) ∧ (n < (((List.length now) : Nat) : Int))) then
              if (((List.length (writes ++ ([(PV.st (List.set (List.set (List.reverse ([(PV.arr EK.u8 (128 : Nat) (Vector.replicate (128 : Nat) (0 : UInt8))), (PV.sc EK.i (0 : Int))] : List PV)) (0 : Nat) (PV.sc EK.i n)) (1 : Nat) (RC.arr (0 : Nat) (128 : Nat) (RC.s EK.u8 b))))] : List PV))) * (136 : Nat)) ≤ (70368744177664 : Nat)) ∧ ((List.length (writes ++ ([(PV.st (List.set (List.set (List.reverse ([(PV.arr EK.u8 (128 : Nat) (Vector.replicate (128 : Nat) (0 : UInt8))), (PV.sc EK.i (0 : Int))] : List PV)) (0 : Nat) (PV.sc EK.i n)) (1 : Nat) (RC.arr (0 : Nat) (128 : Nat) (RC.s EK.u8 b))))] : List PV))) ≤ (70368744177664 : Nat)) then
                if (((PV.flats (writes ++ ([(PV.st (List.set (List.set (List.reverse ([(PV.arr EK.u8 (128 : Nat) (Vector.replicate (128 : Nat) (0 : UInt8))), (PV.sc EK.i (0 : Int))] : List PV)) (0 : Nat) (PV.sc EK.i n)) (1 : Nat) (RC.arr (0 : Nat) (128 : Nat) (RC.s EK.u8 b))))] : List PV))) = true) ∧ (((PV.flats (List.map (fun (z10 : PV × PV) => (Prod.fst z10)) (sureSet sure n (List.getD now (Int.toNat n) PV.nilp)))) && (PV.flats (List.map (fun (z10 : PV × PV) => (Prod.snd z10)) (sureSet sure n (List.getD now (Int.toNat n) PV.nilp))))) = true)) ∧ ((PV.flats (List.set now (Int.toNat n) (PV.arr EK.u8 (128 : Nat) (Vector.ofFn (fun (z10 : Fin 128) => (List.getD b ((0 : Nat) + (Fin.val z10)) (0 : UInt8))))))) = true) then
                  some ((0 : Int), (w64 (done + (1 : Int))), cut, (w64 (left - (1 : Int))), dark, (List.set now (Int.toNat n) (PV.arr EK.u8 (128 : Nat) (Vector.ofFn (fun (z10 : Fin 128) => (List.getD b ((0 : Nat) + (Fin.val z10)) (0 : UInt8)))))), (sureSet sure n (List.getD now (Int.toNat n) PV.nilp)), (writes ++ ([(PV.st (List.set (List.set (List.reverse ([(PV.arr EK.u8 (128 : Nat) (Vector.replicate (128 : Nat) (0 : UInt8))), (PV.sc EK.i (0 : Int))] : List PV)) (0 : Nat) (PV.sc EK.i n)) (1 : Nat) (RC.arr (0 : Nat) (128 : Nat) (RC.s EK.u8 b))))] : List PV)))
                else none
              else none
            else none
          else none)))
  else none
theorem dev_Write_q (now : List PV) (sure : List (PV × PV)) (writes : List PV) (done : Int) (cut : Bool) (left : Int) (dark : Bool) (n : Int) (b : List UInt8) : dev_Write now sure writes done cut left dark n b = (if (devB now sure writes) = true then
    bif !(decide ((((List.length b) : Nat) : Int) = (128 : Int))) then (if (((PV.flats writes) = true) ∧ (((PV.flats (List.map (fun (z10 : PV × PV) => (Prod.fst z10)) sure)) && (PV.flats (List.map (fun (z10 : PV × PV) => (Prod.snd z10)) sure))) = true)) ∧ ((PV.flats now) = true) then
        some ((2 : Int), done, cut, left, dark, now, sure, writes)
      else none)
      else (bif !(decide ((stateV now dark n) = (0 : Int))) then (if (((PV.flats writes) = true) ∧ (((PV.flats (List.map (fun (z10 : PV × PV) => (Prod.fst z10)) sure)) && (PV.flats (List.map (fun (z10 : PV × PV) => (Prod.snd z10)) sure))) = true)) ∧ ((PV.flats now) = true) then
          some ((stateV now dark n), done, cut, left, dark, now, sure, writes)
        else none)
        else (bif cut then (bif bif true then (decide (left = (0 : Int))) else false then (if devC now sure writes then
              if (((PV.flats writes) = true) ∧ (((PV.flats (List.map (fun (z10 : PV × PV) => (Prod.fst z10)) ([] : List (PV × PV)))) && (PV.flats (List.map (fun (z10 : PV × PV) => (Prod.snd z10)) ([] : List (PV × PV))))) = true)) ∧ ((PV.flats (backV now sure)) = true) then
                some ((12 : Int), done, cut, left, true, (backV now sure), ([] : List (PV × PV)), writes)
              else none
            else none)
            else (if ((128 : Nat) ≤ (List.length b)) ∧ ((0 : Nat) < (128 : Nat)) then
              if ((devB now sure writes) = true) ∧ (((0 : Int) ≤ n) ∧ (n < (((List.length now) : Nat) : Int))) then
                if (((List.length (writes ++ ([(PV.st (List.set (List.set (List.reverse ([(PV.arr EK.u8 (128 : Nat) (Vector.replicate (128 : Nat) (0 : UInt8))), (PV.sc EK.i (0 : Int))] : List PV)) (0 : Nat) (PV.sc EK.i n)) (1 : Nat) (RC.arr (0 : Nat) (128 : Nat) (RC.s EK.u8 b))))] : List PV))) * (136 : Nat)) ≤ (70368744177664 : Nat)) ∧ ((List.length (writes ++ ([(PV.st (List.set (List.set (List.reverse ([(PV.arr EK.u8 (128 : Nat) (Vector.replicate (128 : Nat) (0 : UInt8))), (PV.sc EK.i (0 : Int))] : List PV)) (0 : Nat) (PV.sc EK.i n)) (1 : Nat) (RC.arr (0 : Nat) (128 : Nat) (RC.s EK.u8 b))))] : List PV))) ≤ (70368744177664 : Nat)) then
                  if (((PV.flats (writes ++ ([(PV.st (List.set (List.set (List.reverse ([(PV.arr EK.u8 (128 : Nat) (Vector.replicate (128 : Nat) (0 : UInt8))), (PV.sc EK.i (0 : Int))] : List PV)) (0 : Nat) (PV.sc EK.i n)) (1 : Nat) (RC.arr (0 : Nat) (128 : Nat) (RC.s EK.u8 b))))] : List PV))) = true) ∧ (((PV.flats (List.map (fun (z10 : PV × PV) => (Prod.fst z10)) (sureSet sure n (List.getD now (Int.toNat n) PV.nilp)))) && (PV.flats (List.map (fun (z10 : PV × PV) => (Prod.snd z10)) (sureSet sure n (List.getD now (Int.toNat n) PV.nilp))))) = true)) ∧ ((PV.flats (List.set now (Int.toNat n) (PV.arr EK.u8 (128 : Nat) (Vector.ofFn (fun (z10 : Fin 128) => (List.getD b ((0 : Nat) + (Fin.val z10)) (0 : UInt8))))))) = true) then
                    some ((0 : Int), (w64 (done + (1 : Int))), cut, (w64 (left - (1 : Int))), dark, (List.set now (Int.toNat n) (PV.arr EK.u8 (128 : Nat) (Vector.ofFn (fun (z10 : Fin 128) => (List.getD b ((0 : Nat) + (Fin.val z10)) (0 : UInt8)))))), (sureSet sure n (List.getD now (Int.toNat n) PV.nilp)), (writes ++ ([(PV.st (List.set (List.set (List.reverse ([(PV.arr EK.u8 (128 : Nat) (Vector.replicate (128 : Nat) (0 : UInt8))), (PV.sc EK.i (0 : Int))] : List PV)) (0 : Nat) (PV.sc EK.i n)) (1 : Nat) (RC.arr (0 : Nat) (128 : Nat) (RC.s EK.u8 b))))] : List PV)))
                  else none
                else none
              else none
            else none))
          else (if ((128 : Nat) ≤ (List.length b)) ∧ ((0 : Nat) < (128 : Nat)) then
            if ((devB now sure writes) = true) ∧ (((0 : Int) ≤ n) ∧ (n < (((List.length now) : Nat) : Int))) then
              if (((List.length (writes ++ ([(PV.st (List.set (List.set (List.reverse ([(PV.arr EK.u8 (128 : Nat) (Vector.replicate (128 : Nat) (0 : UInt8))), (PV.sc EK.i (0 : Int))] : List PV)) (0 : Nat) (PV.sc EK.i n)) (1 : Nat) (RC.arr (0 : Nat) (128 : Nat) (RC.s EK.u8 b))))] : List PV))) * (136 : Nat)) ≤ (70368744177664 : Nat)) ∧ ((List.length (writes ++ ([(PV.st (List.set (List.set (List.reverse ([(PV.arr EK.u8 (128 : Nat) (Vector.replicate (128 : Nat) (0 : UInt8))), (PV.sc EK.i (0 : Int))] : List PV)) (0 : Nat) (PV.sc EK.i n)) (1 : Nat) (RC.arr (0 : Nat) (128 : Nat) (RC.s EK.u8 b))))] : List PV))) ≤ (70368744177664 : Nat)) then
                if (((PV.flats (writes ++ ([(PV.st (List.set (List.set (List.reverse ([(PV.arr EK.u8 (128 : Nat) (Vector.replicate (128 : Nat) (0 : UInt8))), (PV.sc EK.i (0 : Int))] : List PV)) (0 : Nat) (PV.sc EK.i n)) (1 : Nat) (RC.arr (0 : Nat) (128 : Nat) (RC.s EK.u8 b))))] : List PV))) = true) ∧ (((PV.flats (List.map (fun (z10 : PV × PV) => (Prod.fst z10)) (sureSet sure n (List.getD now (Int.toNat n) PV.nilp)))) && (PV.flats (List.map (fun (z10 : PV × PV) => (Prod.snd z10)) (sureSet sure n (List.getD now (Int.toNat n) PV.nilp))))) = true)) ∧ ((PV.flats (List.set now (Int.toNat n) (PV.arr EK.u8 (128 : Nat) (Vector.ofFn (fun (z10 : Fin 128) => (List.getD b ((0 : Nat) + (Fin.val z10)) (0 : UInt8))))))) = true) then
                  some ((0 : Int), (w64 (done + (1 : Int))), cut, (w64 (left - (1 : Int))), dark, (List.set now (Int.toNat n) (PV.arr EK.u8 (128 : Nat) (Vector.ofFn (fun (z10 : Fin 128) => (List.getD b ((0 : Nat) + (Fin.val z10)) (0 : UInt8)))))), (sureSet sure n (List.getD now (Int.toNat n) PV.nilp)), (writes ++ ([(PV.st (List.set (List.set (List.reverse ([(PV.arr EK.u8 (128 : Nat) (Vector.replicate (128 : Nat) (0 : UInt8))), (PV.sc EK.i (0 : Int))] : List PV)) (0 : Nat) (PV.sc EK.i n)) (1 : Nat) (RC.arr (0 : Nat) (128 : Nat) (RC.s EK.u8 b))))] : List PV)))
                else none
              else none
            else none
          else none)))
  else none) := by kernel_rfl
theorem dev_Write_spec (now : List PV) (sure : List (PV × PV)) (writes : List PV) (done : Int) (cut : Bool) (left : Int) (dark : Bool) (n : Int) (b : List UInt8) (hp : adC now sure writes done cut left dark) (hw : writes.length ≤ 500000000000) :
    dev_Write now sure writes done cut left dark n b = some ((adWrite (adOf now sure writes done cut left dark) n b).1, (adWrite (adOf now sure writes done cut left dark) n b).2.done, (adWrite (adOf now sure writes done cut left dark) n b).2.cut, (adWrite (adOf now sure writes done cut left dark) n b).2.left, (adWrite (adOf now sure writes done cut left dark) n b).2.dark, (adWrite (adOf now sure writes done cut left dark) n b).2.pnow, (adWrite (adOf now sure writes done cut left dark) n b).2.psure, (adWrite (adOf now sure writes done cut left dark) n b).2.pws) := by
  obtain ⟨D, hD, rfl, rfl, rfl, rfl, rfl, rfl, rfl⟩ := hp.get
  have hC := AD.devC hD
  have hp := hC.b
  obtain ⟨d1, d2, d3⟩ := devB_iff.1 hp
  rw [adOf_eq hD, dev_Write_q, if_pos hp, AD.state_eq, if_pos (devB_flats hp), if_pos (devB_flats hp), adWrite_eq]
  by_cases hb : b.length = 128
  · rw [if_neg (show ¬ (b.length ≠ 128) from fun h => h hb), decide_eq_true (show ((b.length : Nat) : Int) = 128 by omega)]
    by_cases hs : D.stateE n = 0
    · obtain ⟨n0, n1, hd⟩ := AD.state0 hs
      have hn : n.toNat < D.base.length := by omega
      rw [if_neg (show ¬ (D.stateE n ≠ 0) from fun h => h hs), decide_eq_true hs]
      simp only [Bool.not_true, cond_false, cond_true]
      have hst : PV.st (List.set (List.set (List.reverse ([(PV.arr EK.u8 (128 : Nat) (Vector.replicate (128 : Nat) (0 : UInt8))), (PV.sc EK.i (0 : Int))] : List PV)) (0 : Nat) (PV.sc EK.i n)) (1 : Nat) (RC.arr (0 : Nat) (128 : Nat) (RC.s EK.u8 b))) = wPV (n, secL b) := by rw [arr_secL]; rfl
      have hput := AD.put_ok hD (secL b) n0 n1
      have hq := (AD.devC hput).b
      have hfl := devB_flats hq
      rw [AD.put_pnow hd, AD.put_psure hd hn, AD.put_pws] at hfl
      have hin : (if ((128 : Nat) ≤ (List.length b)) ∧ ((0 : Nat) < (128 : Nat)) then
          if ((devB D.pnow D.psure D.pws) = true) ∧ (((0 : Int) ≤ n) ∧ (n < (((List.length D.pnow) : Nat) : Int))) then
            if (((List.length (D.pws ++ [wPV (n, secL b)])) * (136 : Nat)) ≤ (70368744177664 : Nat)) ∧ ((List.length (D.pws ++ [wPV (n, secL b)])) ≤ (70368744177664 : Nat)) then
              if (((PV.flats (D.pws ++ [wPV (n, secL b)])) = true) ∧ (((PV.flats (List.map (fun (z10 : PV × PV) => (Prod.fst z10)) (sureSet D.psure n (List.getD D.pnow (Int.toNat n) PV.nilp)))) && (PV.flats (List.map (fun (z10 : PV × PV) => (Prod.snd z10)) (sureSet D.psure n (List.getD D.pnow (Int.toNat n) PV.nilp))))) = true)) ∧ ((PV.flats (List.set D.pnow (Int.toNat n) (sPV (secL b)))) = true) then
                some ((0 : Int), (w64 (D.done + (1 : Int))), D.cut, (w64 (D.left - (1 : Int))), D.dark, (List.set D.pnow (Int.toNat n) (sPV (secL b))), (sureSet D.psure n (List.getD D.pnow (Int.toNat n) PV.nilp)), (D.pws ++ [wPV (n, secL b)]))
              else none
            else none
          else none
        else none) = some ((0 : Int), (D.put n (secL b)).done, (D.put n (secL b)).cut, (D.put n (secL b)).left, (D.put n (secL b)).dark, (D.put n (secL b)).pnow, (D.put n (secL b)).psure, (D.put n (secL b)).pws) := by
        rw [if_pos ⟨by omega, by decide⟩, if_pos ⟨hp, n0, by rw [AD.pnow_len]; exact n1⟩, if_pos (by rw [List.length_append]; show (D.pws.length + 1) * 136 ≤ 70368744177664 ∧ D.pws.length + 1 ≤ 70368744177664; exact ⟨by omega, by omega⟩), if_pos hfl, AD.put_pnow hd, AD.put_psure hd hn, AD.put_pws]
        rfl
      rw [hst, vec_secL]
      by_cases hc : D.cut = true
      · simp only [hc, cond_true]
        by_cases hl : D.left = 0
        · rw [if_pos (show True ∧ D.left = 0 from ⟨trivial, hl⟩), decide_eq_true hl]
          simp only [cond_true]
          rw [if_pos hC, AD.back hD]
          have hlo := devB_flats (AD.devC (AD.lost_ok hD)).b
          have hlo' : (PV.flats D.pws = true ∧ (PV.flats (List.map (fun z10 : PV × PV => z10.fst) []) && PV.flats (List.map (fun z10 : PV × PV => z10.snd) [])) = true) ∧ PV.flats (List.map sPV D.base) = true := hlo
          rw [if_pos hlo', show D.lost.cut = true from hc]
          rfl
        · rw [if_neg (show ¬ (True ∧ D.left = 0) from fun h => hl h.2), decide_eq_false hl]
          simp only [cond_false]
          rw [hc] at hin
          exact hin
      · have hc : D.cut = false := by simpa using hc
        simp only [hc, cond_false]
        rw [if_neg (show ¬ (false = true ∧ D.left = 0) from fun h => by cases h.1)]
        rw [hc] at hin
        exact hin
    · rw [if_pos (show D.stateE n ≠ 0 from hs), decide_eq_false hs]
      rfl
  · rw [if_pos (show b.length ≠ 128 from hb), decide_eq_false (show ¬ ((b.length : Nat) : Int) = 128 by omega)]
    rfl
/-- over memory -/
theorem dev_Write_specD (now : List PV) (sure : List (PV × PV)) (writes : List PV) (done : Int) (cut : Bool) (left : Int) (dark : Bool) (n : Int) (b : List UInt8) (hp : dvC (DV.mk now sure writes done cut left dark)) (hw : writes.length ≤ 500000000000) : dev_Write now sure writes done cut left dark n b = some ((dvWrite (DV.mk now sure writes done cut left dark) n b).1, (dvWrite (DV.mk now sure writes done cut left dark) n b).2.done, (dvWrite (DV.mk now sure writes done cut left dark) n b).2.cut, (dvWrite (DV.mk now sure writes done cut left dark) n b).2.left, (dvWrite (DV.mk now sure writes done cut left dark) n b).2.dark, (dvWrite (DV.mk now sure writes done cut left dark) n b).2.now, (dvWrite (DV.mk now sure writes done cut left dark) n b).2.sure, (dvWrite (DV.mk now sure writes done cut left dark) n b).2.writes) := by
  rw [dvWrite_eq]
  exact dev_Write_spec now sure writes done cut left dark n b hp hw

end
end Go.Proofs.Ytgecpcajmhgboaa.M

namespace Go.Proofs.Ytgecpcajmhgboaa.M
open Go
noncomputable section
/-- the loop 1 of (*moneyer/dev.Dev).On -/
def dev_On_h1 : Nat → Int → Int → Int → Int → Int → Bool → Int → Bool → (List PV) → (List PV) → (List (PV × PV)) → Option (Int × Int × Bool × Int × Bool × List PV × (List (PV × PV)) × List PV)
  | 0, _, _, _, _, _, _, _, _, _, _, _ => none
  | k + 1, keep, torn, t25, t26, d, d1, d2, d3, t24, dm, dm' => bif decide (t26 < t25) then (if ((0 : Int) ≤ t26) ∧ (t26 < (((List.length t24) : Nat) : Int)) then
        if (TY.chk (TY.st ([(TY.sc EK.i), (TY.arr EK.u8 (128 : Nat))] : List TY)) (RC.get (RC.p (129 : Nat) t24) ([(PE.i (Int.toNat t26))] : List PE))) = true then
          bif decide (t26 = keep) then (if ((0 : Int) ≤ (PV.scv EK.i (PV.fld (0 : Nat) (RC.get (RC.p (129 : Nat) t24) ([(PE.i (Int.toNat t26))] : List PE))))) ∧ ((PV.scv EK.i (PV.fld (0 : Nat) (RC.get (RC.p (129 : Nat) t24) ([(PE.i (Int.toNat t26))] : List PE)))) < (((List.length dm) : Nat) : Int)) then
              if ((TY.chk (TY.arr EK.u8 (128 : Nat)) (RC.get (RC.p (128 : Nat) dm) ([(PE.i (Int.toNat (PV.scv EK.i (PV.fld (0 : Nat) (RC.get (RC.p (129 : Nat) t24) ([(PE.i (Int.toNat t26))] : List PE))))))] : List PE))) = true) ∧ (Cn.h (Option.some (((0 : Int) ≤ (0 : Int)) ∧ (((0 : Int) ≤ (bif true then (if ((128 : Int) < torn) then (128 : Int) else torn) else (if ((128 : Int) > torn) then (128 : Int) else torn))) ∧ ((bif true then (if ((128 : Int) < torn) then (128 : Int) else torn) else (if ((128 : Int) > torn) then (128 : Int) else torn)) ≤ (((128 : Nat) : Nat) : Int)))))) then
                if (TY.chk (TY.arr EK.u8 (128 : Nat)) (List.getD dm (Int.toNat (PV.scv EK.i (PV.fld (0 : Nat) (RC.get (RC.p (129 : Nat) t24) ([(PE.i (Int.toNat t26))] : List PE))))) PV.nilp)) = true then
                  bif decide (keep ≤ t26) then (if (((PV.flats ([] : List PV)) = true) ∧ (((PV.flats (List.map (fun (z12 : PV × PV) => (Prod.fst z12)) dm')) && (PV.flats (List.map (fun (z12 : PV × PV) => (Prod.snd z12)) dm'))) = true)) ∧ ((PV.flats (List.set dm (Int.toNat (PV.scv EK.i (PV.fld (0 : Nat) (RC.get (RC.p (129 : Nat) t24) ([(PE.i (Int.toNat t26))] : List PE))))) (RC.arr (0 : Nat) ((Int.toNat (0 : Int)) + ((128 : Nat) - (Int.toNat (0 : Int)))) (RC.s EK.u8 (overS (Int.toNat (0 : Int)) (Min.min (List.length (List.take ((Int.toNat (128 : Int)) - (Int.toNat (0 : Int))) (List.drop (Int.toNat (0 : Int)) (Vector.toList (PV.vecv EK.u8 (128 : Nat) (PV.fld (1 : Nat) (RC.get (RC.p (129 : Nat) t24) ([(PE.i (Int.toNat t26))] : List PE)))))))) ((Int.toNat (bif true then (if ((128 : Int) < torn) then (128 : Int) else torn) else (if ((128 : Int) > torn) then (128 : Int) else torn))) - (Int.toNat (0 : Int)))) (Vector.toList (PV.vecv EK.u8 ((Int.toNat (0 : Int)) + ((128 : Nat) - (Int.toNat (0 : Int)))) (List.getD dm (Int.toNat (PV.scv EK.i (PV.fld (0 : Nat) (RC.get (RC.p (129 : Nat) t24) ([(PE.i (Int.toNat t26))] : List PE))))) PV.nilp))) (List.take ((Int.toNat (128 : Int)) - (Int.toNat (0 : Int))) (List.drop (Int.toNat (0 : Int)) (Vector.toList (PV.vecv EK.u8 (128 : Nat) (PV.fld (1 : Nat) (RC.get (RC.p (129 : Nat) t24) ([(PE.i (Int.toNat t26))] : List PE)))))))))))) = true) then
                      some ((0 : Int), d, false, (0 : Int), false, (List.set dm (Int.toNat (PV.scv EK.i (PV.fld (0 : Nat) (RC.get (RC.p (129 : Nat) t24) ([(PE.i (Int.toNat t26))] : List PE))))) (RC.arr (0 : Nat) ((Int.toNat (0 : Int)) + ((128 : Nat) - (Int.toNat (0 : Int)))) (RC.s EK.u8 (overS (Int.toNat (0 : Int)) (Min.min (List.length (List.take ((Int.toNat (128 : Int)) - (Int.toNat (0 : Int))) (List.drop (Int.toNat (0 : Int)) (Vector.toList (PV.vecv EK.u8 (128 : Nat) (PV.fld (1 : Nat) (RC.get (RC.p (129 : Nat) t24) ([(PE.i (Int.toNat t26))] : List PE)))))))) ((Int.toNat (bif true then (if ((128 : Int) < torn) then (128 : Int) else torn) else (if ((128 : Int) > torn) then (128 : Int) else torn))) - (Int.toNat (0 : Int)))) (Vector.toList (PV.vecv EK.u8 ((Int.toNat (0 : Int)) + ((128 : Nat) - (Int.toNat (0 : Int)))) (List.getD dm (Int.toNat (PV.scv EK.i (PV.fld (0 : Nat) (RC.get (RC.p (129 : Nat) t24) ([(PE.i (Int.toNat t26))] : List PE))))) PV.nilp))) (List.take ((Int.toNat (128 : Int)) - (Int.toNat (0 : Int))) (List.drop (Int.toNat (0 : Int)) (Vector.toList (PV.vecv EK.u8 (128 : Nat) (PV.fld (1 : Nat) (RC.get (RC.p (129 : Nat) t24) ([(PE.i (Int.toNat t26))] : List PE))))))))))), dm', ([] : List PV))
                    else none)
                    else (if ((0 : Int) ≤ (PV.scv EK.i (PV.fld (0 : Nat) (RC.get (RC.p (129 : Nat) t24) ([(PE.i (Int.toNat t26))] : List PE))))) ∧ ((PV.scv EK.i (PV.fld (0 : Nat) (RC.get (RC.p (129 : Nat) t24) ([(PE.i (Int.toNat t26))] : List PE)))) < (((List.length (List.set dm (Int.toNat (PV.scv EK.i (PV.fld (0 : Nat) (RC.get (RC.p (129 : Nat) t24) ([(PE.i (Int.toNat t26))] : List PE))))) (RC.arr (0 : Nat) ((Int.toNat (0 : Int)) + ((128 : Nat) - (Int.toNat (0 : Int)))) (RC.s EK.u8 (overS (Int.toNat (0 : Int)) (Min.min (List.length (List.take ((Int.toNat (128 : Int)) - (Int.toNat (0 : Int))) (List.drop (Int.toNat (0 : Int)) (Vector.toList (PV.vecv EK.u8 (128 : Nat) (PV.fld (1 : Nat) (RC.get (RC.p (129 : Nat) t24) ([(PE.i (Int.toNat t26))] : List PE)))))))) ((Int.toNat (bif true then (if ((128 : Int) < torn) then (128 : Int) else torn) else (if ((128 : Int) > torn) then (128 : Int) else torn))) - (Int.toNat (0 : Int)))) (Vector.toList (PV.vecv EK.u8 ((Int.toNat (0 : Int)) + ((128 : Nat) - (Int.toNat (0 : Int)))) (List.getD dm (Int.toNat (PV.scv EK.i (PV.fld (0 : Nat) (RC.get (RC.p (129 : Nat) t24) ([(PE.i (Int.toNat t26))] : List PE))))) PV.nilp))) (List.take ((Int.toNat (128 : Int)) - (Int.toNat (0 : Int))) (List.drop (Int.toNat (0 : Int)) (Vector.toList (PV.vecv EK.u8 (128 : Nat) (PV.fld (1 : Nat) (RC.get (RC.p (129 : Nat) t24) ([(PE.i (Int.toNat t26))] : List PE)))))))))))) : Nat) : Int)) then
                      if (PV.size (List.getD (List.set dm (Int.toNat (PV.scv EK.i (PV.fld (0 : Nat) (RC.get (RC.p (129 : Nat) t24) ([(PE.i (Int.toNat t26))] : List PE))))) (RC.arr (0 : Nat) ((Int.toNat (0 : Int)) + ((128 : Nat) - (Int.toNat (0 : Int)))) (RC.s EK.u8 (overS (Int.toNat (0 : Int)) (Min.min (List.length (List.take ((Int.toNat (128 : Int)) - (Int.toNat (0 : Int))) (List.drop (Int.toNat (0 : Int)) (Vector.toList (PV.vecv EK.u8 (128 : Nat) (PV.fld (1 : Nat) (RC.get (RC.p (129 : Nat) t24) ([(PE.i (Int.toNat t26))] : List PE)))))))) ((Int.toNat (bif true then (if ((128 : Int) < torn) then (128 : Int) else torn) else (if ((128 : Int) > torn) then (128 : Int) else torn))) - (Int.toNat (0 : Int)))) (Vector.toList (PV.vecv EK.u8 ((Int.toNat (0 : Int)) + ((128 : Nat) - (Int.toNat (0 : Int)))) (List.getD dm (Int.toNat (PV.scv EK.i (PV.fld (0 : Nat) (RC.get (RC.p (129 : Nat) t24) ([(PE.i (Int.toNat t26))] : List PE))))) PV.nilp))) (List.take ((Int.toNat (128 : Int)) - (Int.toNat (0 : Int))) (List.drop (Int.toNat (0 : Int)) (Vector.toList (PV.vecv EK.u8 (128 : Nat) (PV.fld (1 : Nat) (RC.get (RC.p (129 : Nat) t24) ([(PE.i (Int.toNat t26))] : List PE))))))))))) (Int.toNat (PV.scv EK.i (PV.fld (0 : Nat) (RC.get (RC.p (129 : Nat) t24) ([(PE.i (Int.toNat t26))] : List PE))))) PV.nilp)) = (128 : Nat) then
                        dev_On_h1 k keep torn t25 (w64 (t26 + (1 : Int))) d d1 d2 d3 t24 (List.set (List.set dm (Int.toNat (PV.scv EK.i (PV.fld (0 : Nat) (RC.get (RC.p (129 : Nat) t24) ([(PE.i (Int.toNat t26))] : List PE))))) (RC.arr (0 : Nat) ((Int.toNat (0 : Int)) + ((128 : Nat) - (Int.toNat (0 : Int)))) (RC.s EK.u8 (overS (Int.toNat (0 : Int)) (Min.min (List.length (List.take ((Int.toNat (128 : Int)) - (Int.toNat (0 : Int))) (List.drop (Int.toNat (0 : Int)) (Vector.toList (PV.vecv EK.u8 (128 : Nat) (PV.fld (1 : Nat) (RC.get (RC.p (129 : Nat) t24) ([(PE.i (Int.toNat t26))] : List PE)))))))) ((Int.toNat (bif true then (if ((128 : Int) < torn) then (128 : Int) else torn) else (if ((128 : Int) > torn) then (128 : Int) else torn))) - (Int.toNat (0 : Int)))) (Vector.toList (PV.vecv EK.u8 ((Int.toNat (0 : Int)) + ((128 : Nat) - (Int.toNat (0 : Int)))) (List.getD dm (Int.toNat (PV.scv EK.i (PV.fld (0 : Nat) (RC.get (RC.p (129 : Nat) t24) ([(PE.i (Int.toNat t26))] : List PE))))) PV.nilp))) (List.take ((Int.toNat (128 : Int)) - (Int.toNat (0 : Int))) (List.drop (Int.toNat (0 : Int)) (Vector.toList (PV.vecv EK.u8 (128 : Nat) (PV.fld (1 : Nat) (RC.get (RC.p (129 : Nat) t24) ([(PE.i (Int.toNat t26))] : List PE))))))))))) (Int.toNat (PV.scv EK.i (PV.fld (0 : Nat) (RC.get (RC.p (129 : Nat) t24) ([(PE.i (Int.toNat t26))] : List PE))))) (PV.arr EK.u8 (128 : Nat) (PV.vecv EK.u8 (128 : Nat) (PV.fld (1 : Nat) (RC.get (RC.p (129 : Nat) t24) ([(PE.i (Int.toNat t26))] : List PE)))))) dm'
                      else none
                    else none)
                else none
              else none
            else none)
            else (bif decide (keep ≤ t26) then (if (((PV.flats ([] : List PV)) = true) ∧ (((PV.flats (List.map (fun (z12 : PV × PV) => (Prod.fst z12)) dm')) && (PV.flats (List.map (fun (z12 : PV × PV) => (Prod.snd z12)) dm'))) = true)) ∧ ((PV.flats dm) = true) then
                some ((0 : Int), d, false, (0 : Int), false, dm, dm', ([] : List PV))
              else none)
              else (if ((0 : Int) ≤ (PV.scv EK.i (PV.fld (0 : Nat) (RC.get (RC.p (129 : Nat) t24) ([(PE.i (Int.toNat t26))] : List PE))))) ∧ ((PV.scv EK.i (PV.fld (0 : Nat) (RC.get (RC.p (129 : Nat) t24) ([(PE.i (Int.toNat t26))] : List PE)))) < (((List.length dm) : Nat) : Int)) then
                if (PV.size (List.getD dm (Int.toNat (PV.scv EK.i (PV.fld (0 : Nat) (RC.get (RC.p (129 : Nat) t24) ([(PE.i (Int.toNat t26))] : List PE))))) PV.nilp)) = (128 : Nat) then
                  dev_On_h1 k keep torn t25 (w64 (t26 + (1 : Int))) d d1 d2 d3 t24 (List.set dm (Int.toNat (PV.scv EK.i (PV.fld (0 : Nat) (RC.get (RC.p (129 : Nat) t24) ([(PE.i (Int.toNat t26))] : List PE))))) (PV.arr EK.u8 (128 : Nat) (PV.vecv EK.u8 (128 : Nat) (PV.fld (1 : Nat) (RC.get (RC.p (129 : Nat) t24) ([(PE.i (Int.toNat t26))] : List PE)))))) dm'
                else none
              else none))
        else none
      else none)
      else (if (((PV.flats ([] : List PV)) = true) ∧ (((PV.flats (List.map (fun (z12 : PV × PV) => (Prod.fst z12)) dm')) && (PV.flats (List.map (fun (z12 : PV × PV) => (Prod.snd z12)) dm'))) = true)) ∧ ((PV.flats dm) = true) then
        some ((0 : Int), d, false, (0 : Int), false, dm, dm', ([] : List PV))
      else none)
theorem dev_On_h1_q (k : Nat) (keep : Int) (torn : Int) (t25 : Int) (t26 : Int) (d : Int) (d1 : Bool) (d2 : Int) (d3 : Bool) (t24 : List PV) (dm : List PV) (dm' : List (PV × PV)) : dev_On_h1 (k + 1) keep torn t25 t26 d d1 d2 d3 t24 dm dm' =
  (bif decide (t26 < t25) then (if ((0 : Int) ≤ t26) ∧ (t26 < (((List.length t24) : Nat) : Int)) then
        if (TY.chk (TY.st ([(TY.sc EK.i), (TY.arr EK.u8 (128 : Nat))] : List TY)) (RC.get (RC.p (129 : Nat) t24) ([(PE.i (Int.toNat t26))] : List PE))) = true then
          bif decide (t26 = keep) then (if ((0 : Int) ≤ (PV.scv EK.i (PV.fld (0 : Nat) (RC.get (RC.p (129 : Nat) t24) ([(PE.i (Int.toNat t26))] : List PE))))) ∧ ((PV.scv EK.i (PV.fld (0 : Nat) (RC.get (RC.p (129 : Nat) t24) ([(PE.i (Int.toNat t26))] : List PE)))) < (((List.length dm) : Nat) : Int)) then
              if ((TY.chk (TY.arr EK.u8 (128 : Nat)) (RC.get (RC.p (128 : Nat) dm) ([(PE.i (Int.toNat (PV.scv EK.i (PV.fld (0 : Nat) (RC.get (RC.p (129 : Nat) t24) ([(PE.i (Int.toNat t26))] : List PE))))))] : List PE))) = true) ∧ (Cn.h (Option.some (((0 : Int) ≤ (0 : Int)) ∧ (((0 : Int) ≤ (bif true then (if ((128 : Int) < torn) then (128 : Int) else torn) else (if ((128 : Int) > torn) then (128 : Int) else torn))) ∧ ((bif true then (if ((128 : Int) < torn) then (128 : Int) else torn) else (if ((128 : Int) > torn) then (128 : Int) else torn)) ≤ (((128 : Nat) : Nat) : Int)))))) then
                if (TY.chk (TY.arr EK.u8 (128 : Nat)) (List.getD dm (Int.toNat (PV.scv EK.i (PV.fld (0 : Nat) (RC.get (RC.p (129 : Nat) t24) ([(PE.i (Int.toNat t26))] : List PE))))) PV.nilp)) = true then
                  bif decide (keep ≤ t26) then (if (((PV.flats ([] : List PV)) = true) ∧ (((PV.flats (List.map (fun (z12 : PV × PV) => (Prod.fst z12)) dm')) && (PV.flats (List.map (fun (z12 : PV × PV) => (Prod.snd z12)) dm'))) = true)) ∧ ((PV.flats (List.set dm (Int.toNat (PV.scv EK.i (PV.fld (0 : Nat) (RC.get (RC.p (129 : Nat) t24) ([(PE.i (Int.toNat t26))] : List PE))))) (RC.arr (0 : Nat) ((Int.toNat (0 : Int)) + ((128 : Nat) - (Int.toNat (0 : Int)))) (RC.s EK.u8 (overS (Int.toNat (0 : Int)) (Min.min (List.length (List.take ((Int.toNat (128 : Int)) - (Int.toNat (0 : Int))) (List.drop (Int.toNat (0 : Int)) (Vector.toList (PV.vecv EK.u8 (128 : Nat) (PV.fld (1 : Nat) (RC.get (RC.p (129 : Nat) t24) ([(PE.i (Int.toNat t26))] : List PE)))))))) ((Int.toNat (bif true then (if ((128 : Int) < torn) then (128 : Int) else torn) else (if ((128 : Int) > torn) then (128 : Int) else torn))) - (Int.toNat (0 : Int)))) (Vector.toList (PV.vecv EK.u8 ((Int.toNat (0 : Int)) + ((128 : Nat) - (Int.toNat (0 : Int)))) (List.getD dm (Int.toNat (PV.scv EK.i (PV.fld (0 : Nat) (RC.get (RC.p (129 : Nat) t24) ([(PE.i (Int.toNat t26))] : List PE))))) PV.nilp))) (List.take ((Int.toNat (128 : Int)) - (Int.toNat (0 : Int))) (List.drop (Int.toNat (0 : Int)) (Vector.toList (PV.vecv EK.u8 (128 : Nat) (PV.fld (1 : Nat) (RC.get (RC.p (129 : Nat) t24) ([(PE.i (Int.toNat t26))] : List PE)))))))))))) = true) then
                      some ((0 : Int), d, false, (0 : Int), false, (List.set dm (Int.toNat (PV.scv EK.i (PV.fld (0 : Nat) (RC.get (RC.p (129 : Nat) t24) ([(PE.i (Int.toNat t26))] : List PE))))) (RC.arr (0 : Nat) ((Int.toNat (0 : Int)) + ((128 : Nat) - (Int.toNat (0 : Int)))) (RC.s EK.u8 (overS (Int.toNat (0 : Int)) (Min.min (List.length (List.take ((Int.toNat (128 : Int)) - (Int.toNat (0 : Int))) (List.drop (Int.toNat (0 : Int)) (Vector.toList (PV.vecv EK.u8 (128 : Nat) (PV.fld (1 : Nat) (RC.get (RC.p (129 : Nat) t24) ([(PE.i (Int.toNat t26))] : List PE)))))))) ((Int.toNat (bif true then (if ((128 : Int) < torn) then (128 : Int) else torn) else (if ((128 : Int) > torn) then (128 : Int) else torn))) - (Int.toNat (0 : Int)))) (Vector.toList (PV.vecv EK.u8 ((Int.toNat (0 : Int)) + ((128 : Nat) - (Int.toNat (0 : Int)))) (List.getD dm (Int.toNat (PV.scv EK.i (PV.fld (0 : Nat) (RC.get (RC.p (129 : Nat) t24) ([(PE.i (Int.toNat t26))] : List PE))))) PV.nilp))) (List.take ((Int.toNat (128 : Int)) - (Int.toNat (0 : Int))) (List.drop (Int.toNat (0 : Int)) (Vector.toList (PV.vecv EK.u8 (128 : Nat) (PV.fld (1 : Nat) (RC.get (RC.p (129 : Nat) t24) ([(PE.i (Int.toNat t26))] : List PE))))))))))), dm', ([] : List PV))
                    else none)
                    else (if ((0 : Int) ≤ (PV.scv EK.i (PV.fld (0 : Nat) (RC.get (RC.p (129 : Nat) t24) ([(PE.i (Int.toNat t26))] : List PE))))) ∧ ((PV.scv EK.i (PV.fld (0 : Nat) (RC.get (RC.p (129 : Nat) t24) ([(PE.i (Int.toNat t26))] : List PE)))) < (((List.length (List.set dm (Int.toNat (PV.scv EK.i (PV.fld (0 : Nat) (RC.get (RC.p (129 : Nat) t24) ([(PE.i (Int.toNat t26))] : List PE))))) (RC.arr (0 : Nat) ((Int.toNat (0 : Int)) + ((128 : Nat) - (Int.toNat (0 : Int)))) (RC.s EK.u8 (overS (Int.toNat (0 : Int)) (Min.min (List.length (List.take ((Int.toNat (128 : Int)) - (Int.toNat (0 : Int))) (List.drop (Int.toNat (0 : Int)) (Vector.toList (PV.vecv EK.u8 (128 : Nat) (PV.fld (1 : Nat) (RC.get (RC.p (129 : Nat) t24) ([(PE.i (Int.toNat t26))] : List PE)))))))) ((Int.toNat (bif true then (if ((128 : Int) < torn) then (128 : Int) else torn) else (if ((128 : Int) > torn) then (128 : Int) else torn))) - (Int.toNat (0 : Int)))) (Vector.toList (PV.vecv EK.u8 ((Int.toNat (0 : Int)) + ((128 : Nat) - (Int.toNat (0 : Int)))) (List.getD dm (Int.toNat (PV.scv EK.i (PV.fld (0 : Nat) (RC.get (RC.p (129 : Nat) t24) ([(PE.i (Int.toNat t26))] : List PE))))) PV.nilp))) (List.take ((Int.toNat (128 : Int)) - (Int.toNat (0 : Int))) (List.drop (Int.toNat (0 : Int)) (Vector.toList (PV.vecv EK.u8 (128 : Nat) (PV.fld (1 : Nat) (RC.get (RC.p (129 : Nat) t24) ([(PE.i (Int.toNat t26))] : List PE)))))))))))) : Nat) : Int)) then
                      if (PV.size (List.getD (List.set dm (Int.toNat (PV.scv EK.i (PV.fld (0 : Nat) (RC.get (RC.p (129 : Nat) t24) ([(PE.i (Int.toNat t26))] : List PE))))) (RC.arr (0 : Nat) ((Int.toNat (0 : Int)) + ((128 : Nat) - (Int.toNat (0 : Int)))) (RC.s EK.u8 (overS (Int.toNat (0 : Int)) (Min.min (List.length (List.take ((Int.toNat (128 : Int)) - (Int.toNat (0 : Int))) (List.drop (Int.toNat (0 : Int)) (Vector.toList (PV.vecv EK.u8 (128 : Nat) (PV.fld (1 : Nat) (RC.get (RC.p (129 : Nat) t24) ([(PE.i (Int.toNat t26))] : List PE)))))))) ((Int.toNat (bif true then (if ((128 : Int) < torn) then (128 : Int) else torn) else (if ((128 : Int) > torn) then (128 : Int) else torn))) - (Int.toNat (0 : Int)))) (Vector.toList (PV.vecv EK.u8 ((Int.toNat (0 : Int)) + ((128 : Nat) - (Int.toNat (0 : Int)))) (List.getD dm (Int.toNat (PV.scv EK.i (PV.fld (0 : Nat) (RC.get (RC.p (129 : Nat) t24) ([(PE.i (Int.toNat t26))] : List PE))))) PV.nilp))) (List.take ((Int.toNat (128 : Int)) - (Int.toNat (0 : Int))) (List.drop (Int.toNat (0 : Int)) (Vector.toList (PV.vecv EK.u8 (128 : Nat) (PV.fld (1 : Nat) (RC.get (RC.p (129 : Nat) t24) ([(PE.i (Int.toNat t26))] : List PE))))))))))) (Int.toNat (PV.scv EK.i (PV.fld (0 : Nat) (RC.get (RC.p (129 : Nat) t24) ([(PE.i (Int.toNat t26))] : List PE))))) PV.nilp)) = (128 : Nat) then
                        dev_On_h1 k keep torn t25 (w64 (t26 + (1 : Int))) d d1 d2 d3 t24 (List.set (List.set dm (Int.toNat (PV.scv EK.i (PV.fld (0 : Nat) (RC.get (RC.p (129 : Nat) t24) ([(PE.i (Int.toNat t26))] : List PE))))) (RC.arr (0 : Nat) ((Int.toNat (0 : Int)) + ((128 : Nat) - (Int.toNat (0 : Int)))) (RC.s EK.u8 (overS (Int.toNat (0 : Int)) (Min.min (List.length (List.take ((Int.toNat (128 : Int)) - (Int.toNat (0 : Int))) (List.drop (Int.toNat (0 : Int)) (Vector.toList (PV.vecv EK.u8 (128 : Nat) (PV.fld (1 : Nat) (RC.get (RC.p (129 : Nat) t24) ([(PE.i (Int.toNat t26))] : List PE)))))))) ((Int.toNat (bif true then (if ((128 : Int) < torn) then (128 : Int) else torn) else (if ((128 : Int) > torn) then (128 : Int) else torn))) - (Int.toNat (0 : Int)))) (Vector.toList (PV.vecv EK.u8 ((Int.toNat (0 : Int)) + ((128 : Nat) - (Int.toNat (0 : Int)))) (List.getD dm (Int.toNat (PV.scv EK.i (PV.fld (0 : Nat) (RC.get (RC.p (129 : Nat) t24) ([(PE.i (Int.toNat t26))] : List PE))))) PV.nilp))) (List.take ((Int.toNat (128 : Int)) - (Int.toNat (0 : Int))) (List.drop (Int.toNat (0 : Int)) (Vector.toList (PV.vecv EK.u8 (128 : Nat) (PV.fld (1 : Nat) (RC.get (RC.p (129 : Nat) t24) ([(PE.i (Int.toNat t26))] : List PE))))))))))) (Int.toNat (PV.scv EK.i (PV.fld (0 : Nat) (RC.get (RC.p (129 : Nat) t24) ([(PE.i (Int.toNat t26))] : List PE))))) (PV.arr EK.u8 (128 : Nat) (PV.vecv EK.u8 (128 : Nat) (PV.fld (1 : Nat) (RC.get (RC.p (129 : Nat) t24) ([(PE.i (Int.toNat t26))] : List PE)))))) dm'
                      else none
                    else none)
                else none
              else none
            else none)
            else (bif decide (keep ≤ t26) then (if (((PV.flats ([] : List PV)) = true) ∧ (((PV.flats (List.map (fun (z12 : PV × PV) => (Prod.fst z12)) dm')) && (PV.flats (List.map (fun (z12 : PV × PV) => (Prod.snd z12)) dm'))) = true)) ∧ ((PV.flats dm) = true) then
                some ((0 : Int), d, false, (0 : Int), false, dm, dm', ([] : List PV))
              else none)
              else (if ((0 : Int) ≤ (PV.scv EK.i (PV.fld (0 : Nat) (RC.get (RC.p (129 : Nat) t24) ([(PE.i (Int.toNat t26))] : List PE))))) ∧ ((PV.scv EK.i (PV.fld (0 : Nat) (RC.get (RC.p (129 : Nat) t24) ([(PE.i (Int.toNat t26))] : List PE)))) < (((List.length dm) : Nat) : Int)) then
                if (PV.size (List.getD dm (Int.toNat (PV.scv EK.i (PV.fld (0 : Nat) (RC.get (RC.p (129 : Nat) t24) ([(PE.i (Int.toNat t26))] : List PE))))) PV.nilp)) = (128 : Nat) then
                  dev_On_h1 k keep torn t25 (w64 (t26 + (1 : Int))) d d1 d2 d3 t24 (List.set dm (Int.toNat (PV.scv EK.i (PV.fld (0 : Nat) (RC.get (RC.p (129 : Nat) t24) ([(PE.i (Int.toNat t26))] : List PE))))) (PV.arr EK.u8 (128 : Nat) (PV.vecv EK.u8 (128 : Nat) (PV.fld (1 : Nat) (RC.get (RC.p (129 : Nat) t24) ([(PE.i (Int.toNat t26))] : List PE)))))) dm'
                else none
              else none))
        else none
      else none)
      else (if (((PV.flats ([] : List PV)) = true) ∧ (((PV.flats (List.map (fun (z12 : PV × PV) => (Prod.fst z12)) dm')) && (PV.flats (List.map (fun (z12 : PV × PV) => (Prod.snd z12)) dm'))) = true)) ∧ ((PV.flats dm) = true) then
        some ((0 : Int), d, false, (0 : Int), false, dm, dm', ([] : List PV))
      else none)) := by kernel_rfl
/-- (*moneyer/dev.Dev).On -/
def dev_On (k : Nat) (now : List PV) (sure : List (PV × PV)) (writes : List PV) (done : Int) (cut : Bool) (left : Int) (dark : Bool) (keep : Int) (torn : Int) : Option (Int × Int × Bool × Int × Bool × List PV × (List (PV × PV)) × List PV) :=
  if (devB now sure writes) = true then
    bif eqb (decide (keep < (0 : Int))) false then (bif bif false then true else (decide (torn < (0 : Int))) then (if (((PV.flats writes) = true) ∧ (((PV.flats (List.map (fun (z10 : PV × PV) => (Prod.fst z10)) sure)) && (PV.flats (List.map (fun (z10 : PV × PV) => (Prod.snd z10)) sure))) = true)) ∧ ((PV.flats now) = true) then
          some ((2 : Int), done, cut, left, dark, now, sure, writes)
        else none)
        else (if devC now sure writes then
          dev_On_h1 k keep torn (((List.length writes) : Nat) : Int) (0 : Int) done cut left dark writes (backV now sure) ([] : List (PV × PV))
        else none))
      else (if (((PV.flats writes) = true) ∧ (((PV.flats (List.map (fun (z10 : PV × PV) => (Prod.fst z10)) sure)) && (PV.flats (List.map (fun (z10 : PV × PV) => (Prod.snd z10)) sure))) = true)) ∧ ((PV.flats now) = true) then
        some ((2 : Int), done, cut, left, dark, now, sure, writes)
      else none)
  else none
theorem dev_On_q (k : Nat) (now : List PV) (sure : List (PV × PV)) (writes : List PV) (done : Int) (cut : Bool) (left : Int) (dark : Bool) (keep : Int) (torn : Int) : dev_On k now sure writes done cut left dark keep torn = (if (devB now sure writes) = true then
    bif eqb (decide (keep < (0 : Int))) false then (bif bif false then true else (decide (torn < (0 : Int))) then (if (((PV.flats writes) = true) ∧ (((PV.flats (List.map (fun (z10 : PV × PV) => (Prod.fst z10)) sure)) && (PV.flats (List.map (fun (z10 : PV × PV) => (Prod.snd z10)) sure))) = true)) ∧ ((PV.flats now) = true) then
          some ((2 : Int), done, cut, left, dark, now, sure, writes)
        else none)
        else (if devC now sure writes then
          dev_On_h1 k keep torn (((List.length writes) : Nat) : Int) (0 : Int) done cut left dark writes (backV now sure) ([] : List (PV × PV))
        else none))
      else (if (((PV.flats writes) = true) ∧ (((PV.flats (List.map (fun (z10 : PV × PV) => (Prod.fst z10)) sure)) && (PV.flats (List.map (fun (z10 : PV × PV) => (Prod.snd z10)) sure))) = true)) ∧ ((PV.flats now) = true) then
        some ((2 : Int), done, cut, left, dark, now, sure, writes)
      else none)
  else none) := by kernel_rfl
theorem on_torn (o v : Sec) (t : Int) (ht : 0 ≤ t) : RC.arr (0 : Nat) ((Int.toNat (0 : Int)) + ((128 : Nat) - (Int.toNat (0 : Int)))) (RC.s EK.u8 (overS (Int.toNat (0 : Int)) (Min.min (List.length (List.take ((Int.toNat (128 : Int)) - (Int.toNat (0 : Int))) (List.drop (Int.toNat (0 : Int)) v.toList))) ((Int.toNat (if ((128 : Int) < t) then (128 : Int) else t)) - (Int.toNat (0 : Int)))) o.toList (List.take ((Int.toNat (128 : Int)) - (Int.toNat (0 : Int))) (List.drop (Int.toNat (0 : Int)) v.toList)))) = sPV (tornV o v t) := by
  have e1 : List.take ((Int.toNat (128 : Int)) - (Int.toNat (0 : Int))) (List.drop (Int.toNat (0 : Int)) v.toList) = v.toList := by
    show List.take 128 (List.drop 0 v.toList) = v.toList
    rw [List.drop_zero, List.take_of_length_le (by simp)]
  rw [e1]
  have e2 : Min.min v.toList.length ((Int.toNat (if ((128 : Int) < t) then (128 : Int) else t)) - (Int.toNat (0 : Int))) = min 128 t.toNat := by
    rw [show v.toList.length = 128 from by simp]
    show min 128 ((Int.toNat (if ((128 : Int) < t) then (128 : Int) else t)) - 0) = _
    split <;> omega
  rw [e2]
  show PV.arr .u8 128 (Vector.ofFn fun i : Fin 128 => (overS 0 (min 128 t.toNat) o.toList v.toList).getD (0 + i.val) (0 : UInt8)) = sPV (tornV o v t)
  unfold sPV tornV
  congr 2
  funext i
  rw [Nat.zero_add]
  have hi := i.isLt
  unfold overS
  rw [List.take_zero, List.nil_append, Nat.zero_add]
  by_cases h : ((i.val : Nat) : Int) < t
  · rw [if_pos h, List.getD_eq_getElem?_getD, List.getElem?_append_left (by rw [List.length_take]; simp; omega), List.getElem?_take_of_lt (by omega)]
    simp [hi]
  · rw [if_neg h, List.getD_eq_getElem?_getD, List.getElem?_append_right (by rw [List.length_take]; simp; omega), List.length_take, List.getElem?_drop]
    have : min 128 t.toNat + (i.val - min (min 128 t.toNat) v.toList.length) = i.val := by simp; omega
    rw [this]
    simp [hi]
theorem chk_wPV (p : Int × Sec) : TY.chk (TY.st [TY.sc EK.i, TY.arr EK.u8 128]) (wPV p) = true := rfl
theorem fld0_wPV (p : Int × Sec) : PV.scv EK.i (PV.fld 0 (wPV p)) = p.1 := rfl
theorem fld1_wPV (p : Int × Sec) : PV.vecv EK.u8 128 (PV.fld 1 (wPV p)) = p.2 := vecv_arr p.2
theorem flats_sPV (b : List Sec) : PV.flats (b.map sPV) = true := secB_flats (List.all_eq_true.2 fun x hx => by obtain ⟨v, _, rfl⟩ := List.mem_map.1 hx; rfl)
theorem on_flats (b : List Sec) : ((PV.flats ([] : List PV) = true) ∧ ((PV.flats (List.map (fun (z12 : PV × PV) => z12.1) []) && PV.flats (List.map (fun (z12 : PV × PV) => z12.2) [])) = true)) ∧ PV.flats (b.map sPV) = true := ⟨⟨rfl, rfl⟩, flats_sPV b⟩
theorem dev_On_loop (keep torn : Int) (h0 : 0 ≤ keep) (ht : 0 ≤ torn) (done : Int) (cut : Bool) (left : Int) (dark : Bool) (ws : List (Int × Sec)) (hlen : ws.length ≤ 500000000000) :
    ∀ (rest : List (Int × Sec)) (i : Nat) (b : List Sec), ws.drop i = rest → i ≤ keep.toNat → (∀ p ∈ rest, 0 ≤ p.1 ∧ p.1 < b.length) →
      dev_On_h1 (rest.length + 1) keep torn (((ws.map wPV).length : Nat) : Int) (i : Int) done cut left dark (ws.map wPV) (b.map sPV) [] = some (0, done, false, 0, false, (keptW b rest (keep.toNat - i) torn).map sPV, [], [])
  | [], i, b, hd, hi, hr => by
    have hi2 : ws.length ≤ i := List.drop_eq_nil_iff.1 hd
    rw [dev_On_h1_q, decide_eq_false (by rw [List.length_map]; omega)]
    simp only [cond_false]
    rw [if_pos (on_flats b)]
    simp [keptW]
  | p :: r, i, b, hd, hi, hr => by
    have hi2 : i < ws.length := by
      refine Nat.lt_of_not_le fun h => ?_
      rw [List.drop_eq_nil_iff.2 h] at hd
      cases hd
    have hp : ws.getD i (0, zsec) = p := by
      rw [getD_lt _ _ _ hi2]
      rw [List.drop_eq_getElem_cons hi2] at hd
      exact (List.cons.inj hd).1
    have hd' : ws.drop (i + 1) = r := by
      rw [List.drop_eq_getElem_cons hi2] at hd
      exact (List.cons.inj hd).2
    obtain ⟨p0, p1⟩ := hr p (by simp)
    have hn : p.1.toNat < b.length := by omega
    have he : RC.get (RC.p 129 (ws.map wPV)) [PE.i (Int.toNat ((i : Nat) : Int))] = wPV p := by
      show PV.get ((ws.map wPV).getD (Int.toNat ((i : Nat) : Int)) .nilp) [] = _
      rw [PV.get_nil, Int.toNat_natCast, map_getD wPV ws i (0, zsec) .nilp hi2, hp]
    have hb : (b.map sPV).getD p.1.toNat .nilp = sPV (b.getD p.1.toNat zsec) := map_getD sPV b p.1.toNat zsec .nilp hn
    have hg : RC.get (RC.p 128 (b.map sPV)) [PE.i p.1.toNat] = sPV (b.getD p.1.toNat zsec) := by
      show PV.get ((b.map sPV).getD p.1.toNat .nilp) [] = _
      rw [PV.get_nil, hb]
    have hbl : (b.map sPV).length = b.length := by simp
    rw [List.length_cons, dev_On_h1_q, decide_eq_true (by rw [List.length_map]; omega)]
    simp only [cond_true]
    rw [if_pos ⟨by omega, by rw [List.length_map]; omega⟩, he, if_pos (chk_wPV p)]
    simp only [fld0_wPV, fld1_wPV, hb, hg]
    by_cases hk : ((i : Nat) : Int) = keep
    · have hk2 : keep.toNat - i = 0 := by omega
      rw [decide_eq_true hk]
      simp only [cond_true]
      have hb2 : (0 : Int) ≤ p.1 ∧ p.1 < (((b.map sPV).length : Nat) : Int) := ⟨p0, by rw [hbl]; exact p1⟩
      rw [if_pos hb2]
      have hc : (TY.chk (TY.arr EK.u8 128) (sPV (b.getD p.1.toNat zsec)) = true) ∧ Cn.h (some ((0 : Int) ≤ 0 ∧ (0 : Int) ≤ (if (128 : Int) < torn then (128 : Int) else torn) ∧ (if (128 : Int) < torn then (128 : Int) else torn) ≤ ((128 : Nat) : Int))) := by
        refine ⟨rfl, ?_⟩
        show (0 : Int) ≤ 0 ∧ (0 : Int) ≤ (if (128 : Int) < torn then (128 : Int) else torn) ∧ (if (128 : Int) < torn then (128 : Int) else torn) ≤ ((128 : Nat) : Int)
        refine ⟨Int.le_refl _, ?_, ?_⟩ <;> split <;> omega
      rw [if_pos hc, if_pos hc.1, decide_eq_true (show keep ≤ ((i : Nat) : Int) by omega)]
      simp only [cond_true]
      have hv : PV.vecv EK.u8 ((Int.toNat (0 : Int)) + ((128 : Nat) - (Int.toNat (0 : Int)))) (sPV (b.getD p.1.toNat zsec)) = b.getD p.1.toNat zsec := vecv_arr _
      rw [hv, on_torn _ _ _ ht, ← List.map_set, if_pos (on_flats _), hk2]
      rfl
    · have hk2 : keep.toNat - i = (keep.toNat - (i + 1)) + 1 := by omega
      rw [decide_eq_false hk, decide_eq_false (show ¬ keep ≤ ((i : Nat) : Int) by omega)]
      simp only [cond_false]
      have hb2 : (0 : Int) ≤ p.1 ∧ p.1 < (((b.map sPV).length : Nat) : Int) := ⟨p0, by rw [hbl]; exact p1⟩
      rw [if_pos hb2, if_pos (show PV.size (sPV (b.getD p.1.toNat zsec)) = 128 from rfl), w64_id (by omega) (by omega)]
      have ih := dev_On_loop keep torn h0 ht done cut left dark ws hlen r (i + 1) (b.set p.1.toNat p.2) hd' (by omega) fun q hq => by rw [List.length_set]; exact hr q (by simp [hq])
      rw [List.map_set] at ih
      rw [hk2, keptW, show ((i : Nat) : Int) + 1 = ((i + 1 : Nat) : Int) by omega]
      exact ih
theorem dev_On_spec (now : List PV) (sure : List (PV × PV)) (writes : List PV) (done : Int) (cut : Bool) (left : Int) (dark : Bool) (keep torn : Int) (hp : adC now sure writes done cut left dark) (hw : writes.length ≤ 500000000000) :
    ∃ k, dev_On k now sure writes done cut left dark keep torn = some ((adOn (adOf now sure writes done cut left dark) keep torn).1, (adOn (adOf now sure writes done cut left dark) keep torn).2.done, (adOn (adOf now sure writes done cut left dark) keep torn).2.cut, (adOn (adOf now sure writes done cut left dark) keep torn).2.left, (adOn (adOf now sure writes done cut left dark) keep torn).2.dark, (adOn (adOf now sure writes done cut left dark) keep torn).2.pnow, (adOn (adOf now sure writes done cut left dark) keep torn).2.psure, (adOn (adOf now sure writes done cut left dark) keep torn).2.pws) := by
  obtain ⟨D, hD, rfl, rfl, rfl, rfl, rfl, rfl, rfl⟩ := hp.get
  have hC := AD.devC hD
  have hp := hC.b
  refine ⟨D.ws.length + 1, ?_⟩
  rw [adOf_eq hD, dev_On_q, if_pos hp, if_pos (devB_flats hp), adOn_eq, if_pos hC, AD.back hD]
  by_cases hk : keep < 0
  · rw [decide_eq_true hk, if_pos (show keep < 0 ∨ torn < 0 from .inl hk)]
    rfl
  · rw [decide_eq_false hk]
    by_cases ht : torn < 0
    · rw [decide_eq_true ht, if_pos (show keep < 0 ∨ torn < 0 from .inr ht)]
      rfl
    · rw [decide_eq_false ht, if_neg (show ¬ (keep < 0 ∨ torn < 0) from fun h => h.elim hk ht)]
      have hwl : D.ws.length ≤ 500000000000 := by
        have : D.pws.length = D.ws.length := by show (D.ws.map wPV).length = _; simp
        omega
      exact dev_On_loop keep torn (by omega) (by omega) D.done D.cut D.left D.dark D.ws hwl D.ws 0 D.base rfl (by omega) hD.ws
/-- over memory -/
theorem dev_On_specD (now : List PV) (sure : List (PV × PV)) (writes : List PV) (done : Int) (cut : Bool) (left : Int) (dark : Bool) (keep torn : Int) (hp : dvC (DV.mk now sure writes done cut left dark)) (hw : writes.length ≤ 500000000000) : ∃ k, dev_On k now sure writes done cut left dark keep torn = some ((dvOn (DV.mk now sure writes done cut left dark) keep torn).1, (dvOn (DV.mk now sure writes done cut left dark) keep torn).2.done, (dvOn (DV.mk now sure writes done cut left dark) keep torn).2.cut, (dvOn (DV.mk now sure writes done cut left dark) keep torn).2.left, (dvOn (DV.mk now sure writes done cut left dark) keep torn).2.dark, (dvOn (DV.mk now sure writes done cut left dark) keep torn).2.now, (dvOn (DV.mk now sure writes done cut left dark) keep torn).2.sure, (dvOn (DV.mk now sure writes done cut left dark) keep torn).2.writes) := by
  rw [dvOn_eq]
  exact dev_On_spec now sure writes done cut left dark keep torn hp hw

end
end Go.Proofs.Ytgecpcajmhgboaa.M

namespace Go.Proofs.Ytgecpcajmhgboaa.M
open Go
noncomputable section
/-- (*moneyer/dev.Dev).Read -/
def dev_Read (now : List PV) (sure : List (PV × PV)) (writes : List PV) (done : Int) (cut : Bool) (left : Int) (dark : Bool) (n : Int) : Option (List UInt8 × Int × Int × Bool × Int × Bool × List PV × (List (PV × PV)) × List PV) :=
  if (devB now sure writes) = true then
    bif !(decide ((stateV now dark n) = (0 : Int))) then (some (([] : List UInt8), (stateV now dark n), done, cut, left, dark, now, sure, writes))
      else (if ((0 : Int) ≤ n) ∧ (n < (((List.length now) : Nat) : Int)) then
        if (TY.chk (TY.arr EK.u8 (128 : Nat)) (RC.get (RC.p (128 : Nat) now) ([(PE.i (Int.toNat n))] : List PE))) = true then
          some ((List.take ((Int.toNat (128 : Int)) - (Int.toNat (0 : Int))) (List.drop (Int.toNat (0 : Int)) (Vector.toList (PV.vecv EK.u8 (128 : Nat) (RC.get (RC.p (128 : Nat) now) ([(PE.i (Int.toNat n))] : List PE)))))), (0 : Int), done, cut, left, dark, now, sure, writes)
        else none
      else none)
  else none
theorem dev_Read_q (now : List PV) (sure : List (PV × PV)) (writes : List PV) (done : Int) (cut : Bool) (left : Int) (dark : Bool) (n : Int) : dev_Read now sure writes done cut left dark n = (if (devB now sure writes) = true then
    bif !(decide ((stateV now dark n) = (0 : Int))) then (some (([] : List UInt8), (stateV now dark n), done, cut, left, dark, now, sure, writes))
      else (if ((0 : Int) ≤ n) ∧ (n < (((List.length now) : Nat) : Int)) then
        if (TY.chk (TY.arr EK.u8 (128 : Nat)) (RC.get (RC.p (128 : Nat) now) ([(PE.i (Int.toNat n))] : List PE))) = true then
          some ((List.take ((Int.toNat (128 : Int)) - (Int.toNat (0 : Int))) (List.drop (Int.toNat (0 : Int)) (Vector.toList (PV.vecv EK.u8 (128 : Nat) (RC.get (RC.p (128 : Nat) now) ([(PE.i (Int.toNat n))] : List PE)))))), (0 : Int), done, cut, left, dark, now, sure, writes)
        else none
      else none)
  else none) := by kernel_rfl
theorem dev_Read_spec (now : List PV) (sure : List (PV × PV)) (writes : List PV) (done : Int) (cut : Bool) (left : Int) (dark : Bool) (n : Int) (hp : adC now sure writes done cut left dark) :
    dev_Read now sure writes done cut left dark n = some ((adRead (adOf now sure writes done cut left dark) n).1, (adRead (adOf now sure writes done cut left dark) n).2, done, cut, left, dark, now, sure, writes) := by
  obtain ⟨D, hD, rfl, rfl, rfl, rfl, rfl, rfl, rfl⟩ := hp.get
  have hp := (AD.devC hD).b
  obtain ⟨d1, d2, d3⟩ := devB_iff.1 hp
  have hl : D.pnow.length = D.base.length := by show (D.now.map sPV).length = _; rw [List.length_map, AD.now_len]
  have hs : stateV D.pnow D.dark n = D.stateE n := by rw [stateV_eq, hl]; rfl
  rw [adOf_eq hD, dev_Read_q, if_pos hp, hs, adRead_eq]
  by_cases h : D.stateE n = 0
  · obtain ⟨h1, h2, h3⟩ := AD.state0 h
    have hi : n.toNat < D.pnow.length := by omega
    have hg : RC.get (RC.p 128 D.pnow) [PE.i n.toNat] = sPV (D.now.getD n.toNat zsec) := by
      show PV.get (D.pnow.getD n.toNat .nilp) [] = _
      rw [PV.get_nil]
      exact map_getD sPV D.now n.toNat zsec .nilp (by rw [AD.now_len]; omega)
    have ht : ∀ v : Vector UInt8 128, List.take (Int.toNat (128 : Int) - Int.toNat (0 : Int)) (List.drop (Int.toNat (0 : Int)) v.toList) = v.toList := fun v => by
      show List.take 128 (List.drop 0 v.toList) = v.toList
      rw [List.drop_zero, List.take_of_length_le (by simp)]
    rw [decide_eq_true h, if_pos h, if_pos ⟨h1, by rw [hl]; exact h2⟩, hg, if_pos (show TY.chk (TY.arr EK.u8 128) (sPV (D.now.getD n.toNat zsec)) = true from rfl), ht]
    simp only [Bool.not_true, cond_false]
    rw [show PV.vecv EK.u8 128 (sPV (D.now.getD n.toNat zsec)) = D.now.getD n.toNat zsec from secOf_sPV _]
  · rw [decide_eq_false h, if_neg h]
    rfl
/-- over memory -/
theorem dev_Read_specD (now : List PV) (sure : List (PV × PV)) (writes : List PV) (done : Int) (cut : Bool) (left : Int) (dark : Bool) (n : Int) (hp : dvC (DV.mk now sure writes done cut left dark)) : dev_Read now sure writes done cut left dark n = some ((dvRead (DV.mk now sure writes done cut left dark) n).1, (dvRead (DV.mk now sure writes done cut left dark) n).2, done, cut, left, dark, now, sure, writes) := by
  rw [dvRead_eq]
  exact dev_Read_spec now sure writes done cut left dark n hp

end
end Go.Proofs.Ytgecpcajmhgboaa.M

namespace Go.Proofs.Ytgecpcajmhgboaa.M
open Go
noncomputable section
set_option maxRecDepth 100000
set_option maxHeartbeats 0
noncomputable def dev_off_n_T : Tbl := []
noncomputable def dev_off_n_C : CfgW := mkC Try.prog noG dev_off_n_T 12 0 false
def dev_off_n_lv : Nat → List Nat := fun i => []
noncomputable abbrev dev_off_n_b : Code := Try.f26.body.getD .skip
noncomputable abbrev dev_off_n_r : List ResultVar := Try.f26.results.toList
def dev_off_n_hs : List Nat := []

def dev_off_n_enc (r : Bool) : CallOut := ⟨.pv (.sc .b r), [], true, []⟩
theorem dev_off_n_e  (Q : CallOut → Prop) : evalFnP dev_off_n_C dev_off_n_lv dev_off_n_r dev_off_n_hs dev_off_n_b [.pv .nilp] [] Q =
    (Q (dev_off_n_enc true)) := by kernel_rfl
theorem dev_off_n_w  {Q : CallOut → Prop} (h : Q (dev_off_n_enc (dev_off_n ))) : evalFnP dev_off_n_C dev_off_n_lv dev_off_n_r dev_off_n_hs dev_off_n_b [.pv .nilp] [] Q :=
  Eq.mpr (dev_off_n_e  Q) (have h := Eq.mp (congrArg (fun r => Q (dev_off_n_enc r)) (dev_off_n_q )) h; h)
def dev_off_n_c : Ans
  | [.pv .nilp], [] => some (none, dev_off_n_enc (dev_off_n ))
  | _, _ => none
theorem dev_off_n_tok : TblOK Try.prog noG dev_off_n_T := .nil
theorem dev_off_n_ok : FnOK Try.prog noG 26 (unW dev_off_n_c) := by
  refine FnOK.ofC (T := dev_off_n_T) (nt := 12) (np := 0) (mv := []) (nf := false) (hs := dev_off_n_hs) (fn := Try.f26) (body := dev_off_n_b) dev_off_n_tok (by kernel_rfl) (by kernel_rfl) (by kernel_rfl) (by kernel_rfl) (c := dev_off_n_c) (lv := dev_off_n_lv) ?_
  intro xs mem p out h hp
  unfold dev_off_n_c at h
  split at h
  · cases h
    exact dev_off_n_w  rfl
  · cases h
end
end Go.Proofs.Ytgecpcajmhgboaa.M

namespace Go.Proofs.Ytgecpcajmhgboaa.M
open Go
noncomputable section
set_option maxRecDepth 100000
set_option maxHeartbeats 0
noncomputable def dev_state_T : Tbl := []
noncomputable def dev_state_C : CfgW := mkC Try.prog noG dev_state_T 22 1 false
def dev_state_lv : Nat → List Nat := fun i => []
noncomputable abbrev dev_state_b : Code := Try.f27.body.getD .skip
noncomputable abbrev dev_state_r : List ResultVar := Try.f27.results.toList
def dev_state_hs : List Nat := [0]

def dev_state_enc (r : Int × Int × Bool × Int × Bool × List PV × (List (PV × PV)) × List PV) : CallOut := ⟨.pv (.sc .i r.1), [(60000, .box (.st [.o 60001, .o 60002, .o 60003, .pv (.sc .i r.2.1), .pv (.sc .b r.2.2.1), .pv (.sc .i r.2.2.2.1), .pv (.sc .b r.2.2.2.2.1)])), (60001, .row (.p 128 r.2.2.2.2.2.1) false), (60002, .map r.2.2.2.2.2.2.1), (60003, .row (.p 129 r.2.2.2.2.2.2.2) false)], true, [(0, .p 60000 [])]⟩
theorem dev_state_e (now : List PV) (sure : List (PV × PV)) (writes : List PV) (done : Int) (cut : Bool) (left : Int) (dark : Bool) (n : Int) (Q : CallOut → Prop) : evalFnP dev_state_C dev_state_lv dev_state_r dev_state_hs dev_state_b [.p 60000 [], .pv (.sc .i n)] [(60000, .box (.st [.o 60001, .o 60002, .o 60003, .pv (.sc .i done), .pv (.sc .b cut), .pv (.sc .i left), .pv (.sc .b dark)])), (60001, .row (.p 128 now) false), (60002, .map sure), (60003, .row (.p 129 writes) false)] Q =
    (condP (eqb (decide (n < (0 : Int))) false) (condP (bif false then true else (decide ((((List.length now) : Nat) : Int) ≤ n))) (((((PV.flats writes) = true) ∧ (((PV.flats (List.map (fun (z9 : PV × PV) => (Prod.fst z9)) sure)) && (PV.flats (List.map (fun (z9 : PV × PV) => (Prod.snd z9)) sure))) = true)) ∧ ((PV.flats now) = true)) ∧ (Q (dev_state_enc ((2 : Int), done, cut, left, dark, now, sure, writes)))) (condP dark (((((PV.flats writes) = true) ∧ (((PV.flats (List.map (fun (z9 : PV × PV) => (Prod.fst z9)) sure)) && (PV.flats (List.map (fun (z9 : PV × PV) => (Prod.snd z9)) sure))) = true)) ∧ ((PV.flats now) = true)) ∧ (Q (dev_state_enc ((12 : Int), done, cut, left, dark, now, sure, writes)))) (((((PV.flats writes) = true) ∧ (((PV.flats (List.map (fun (z9 : PV × PV) => (Prod.fst z9)) sure)) && (PV.flats (List.map (fun (z9 : PV × PV) => (Prod.snd z9)) sure))) = true)) ∧ ((PV.flats now) = true)) ∧ (Q (dev_state_enc ((0 : Int), done, cut, left, dark, now, sure, writes)))))) (((((PV.flats writes) = true) ∧ (((PV.flats (List.map (fun (z9 : PV × PV) => (Prod.fst z9)) sure)) && (PV.flats (List.map (fun (z9 : PV × PV) => (Prod.snd z9)) sure))) = true)) ∧ ((PV.flats now) = true)) ∧ (Q (dev_state_enc ((2 : Int), done, cut, left, dark, now, sure, writes))))) := by kernel_rfl
theorem dev_state_w (now : List PV) (sure : List (PV × PV)) (writes : List PV) (done : Int) (cut : Bool) (left : Int) (dark : Bool) (n : Int) {r} {Q : CallOut → Prop} (h : dev_state now sure writes done cut left dark n = some r) (hQ : Q (dev_state_enc r)) : evalFnP dev_state_C dev_state_lv dev_state_r dev_state_hs dev_state_b [.p 60000 [], .pv (.sc .i n)] [(60000, .box (.st [.o 60001, .o 60002, .o 60003, .pv (.sc .i done), .pv (.sc .b cut), .pv (.sc .i left), .pv (.sc .b dark)])), (60001, .row (.p 128 now) false), (60002, .map sure), (60003, .row (.p 129 writes) false)] Q :=
  Eq.mpr (dev_state_e now sure writes done cut left dark n Q) (have h := (dev_state_q now sure writes done cut left dark n).symm.trans h; cond_ok h (fun h => cond_ok h (fun h => ite_ok h fun hc0 h => ret_ok (Q := Q) (e := dev_state_enc) h hQ) (fun h => cond_ok h (fun h => ite_ok h fun hc0 h => ret_ok (Q := Q) (e := dev_state_enc) h hQ) (fun h => ite_ok h fun hc0 h => ret_ok (Q := Q) (e := dev_state_enc) h hQ))) (fun h => ite_ok h fun hc0 h => ret_ok (Q := Q) (e := dev_state_enc) h hQ))
def dev_state_c : Ans
  | [.p 60000 [], .pv (.sc .i n)], [(60000, .box (.st [.o 60001, .o 60002, .o 60003, .pv (.sc .i done), .pv (.sc .b cut), .pv (.sc .i left), .pv (.sc .b dark)])), (60001, .row (.p 128 now) false), (60002, .map sure), (60003, .row (.p 129 writes) false)] => some (some (devB now sure writes = true), dev_state_enc ((stateV now dark n, done, cut, left, dark, now, sure, writes)))
  | _, _ => none
theorem dev_state_tok : TblOK Try.prog noG dev_state_T := .nil
theorem dev_state_ok : FnOK Try.prog noG 27 (unW dev_state_c) := by
  refine FnOK.ofC (T := dev_state_T) (nt := 22) (np := 1) (mv := []) (nf := false) (hs := dev_state_hs) (fn := Try.f27) (body := dev_state_b) dev_state_tok (by kernel_rfl) (by kernel_rfl) (by kernel_rfl) (by kernel_rfl) (c := dev_state_c) (lv := dev_state_lv) ?_
  intro xs mem p out h hp
  unfold dev_state_c at h
  split at h
  · cases h
    exact dev_state_w _ _ _ _ _ _ _ _ (dev_state_spec _ _ _ _ _ _ _ _ hp) rfl
  · cases h
end
end Go.Proofs.Ytgecpcajmhgboaa.M

namespace Go.Proofs.Ytgecpcajmhgboaa.M
open Go
noncomputable section
set_option maxRecDepth 100000
set_option maxHeartbeats 0
noncomputable def dev_Read_n_T : Tbl := [(26, [], dev_off_n_c), (27, [true, false], dev_state_c)]
noncomputable def dev_Read_n_C : CfgW := mkC Try.prog noG dev_Read_n_T 24 0 false
def dev_Read_n_lv : Nat → List Nat := fun i => []
noncomputable abbrev dev_Read_n_b : Code := Try.f15.body.getD .skip
noncomputable abbrev dev_Read_n_r : List ResultVar := Try.f15.results.toList
def dev_Read_n_hs : List Nat := []

def dev_Read_n_enc (r : Int × List UInt8) : CallOut := ⟨.tup [.o 60000, .pv (.sc .i r.1)], [(60000, .row (.s .u8 r.2) false)], true, []⟩
theorem dev_Read_n_e (n : Int) (Q : CallOut → Prop) : evalFnP dev_Read_n_C dev_Read_n_lv dev_Read_n_r dev_Read_n_hs dev_Read_n_b [.pv .nilp, .pv (.sc .i n)] [] Q =
    (Q (dev_Read_n_enc ((1 : Int), ([] : List UInt8)))) := by kernel_rfl
theorem dev_Read_n_w (n : Int) {Q : CallOut → Prop} (h : Q (dev_Read_n_enc (dev_Read_n n))) : evalFnP dev_Read_n_C dev_Read_n_lv dev_Read_n_r dev_Read_n_hs dev_Read_n_b [.pv .nilp, .pv (.sc .i n)] [] Q :=
  Eq.mpr (dev_Read_n_e n Q) (have h := Eq.mp (congrArg (fun r => Q (dev_Read_n_enc r)) (dev_Read_n_q n)) h; h)
def dev_Read_n_c : Ans
  | [.pv .nilp, .pv (.sc .i n)], [] => some (none, dev_Read_n_enc (dev_Read_n n))
  | _, _ => none
theorem dev_Read_n_tok : TblOK Try.prog noG dev_Read_n_T := .cons ⟨by kernel_rfl, dev_off_n_ok⟩ (.cons ⟨by kernel_rfl, dev_state_ok⟩ (.nil))
theorem dev_Read_n_ok : FnOK Try.prog noG 15 (unW dev_Read_n_c) := by
  refine FnOK.ofC (T := dev_Read_n_T) (nt := 24) (np := 0) (mv := []) (nf := false) (hs := dev_Read_n_hs) (fn := Try.f15) (body := dev_Read_n_b) dev_Read_n_tok (by kernel_rfl) (by kernel_rfl) (by kernel_rfl) (by kernel_rfl) (c := dev_Read_n_c) (lv := dev_Read_n_lv) ?_
  intro xs mem p out h hp
  unfold dev_Read_n_c at h
  split at h
  · cases h
    exact dev_Read_n_w _ rfl
  · cases h
end
end Go.Proofs.Ytgecpcajmhgboaa.M

namespace Go.Proofs.Ytgecpcajmhgboaa.M
open Go
noncomputable section
set_option maxRecDepth 100000
set_option maxHeartbeats 0
noncomputable def dev_off_z_T : Tbl := []
noncomputable def dev_off_z_C : CfgW := mkC Try.prog noG dev_off_z_T 12 0 false
def dev_off_z_lv : Nat → List Nat := fun i => []
noncomputable abbrev dev_off_z_b : Code := Try.f26.body.getD .skip
noncomputable abbrev dev_off_z_r : List ResultVar := Try.f26.results.toList
def dev_off_z_hs : List Nat := []

def dev_off_z_enc (r : Bool) : CallOut := ⟨.pv (.sc .b r), [], true, []⟩
theorem dev_off_z_e  (Q : CallOut → Prop) : evalFnP dev_off_z_C dev_off_z_lv dev_off_z_r dev_off_z_hs dev_off_z_b [.rp (.st [.sp 128 [], .nilm, .sp 129 [], .sc .i 0, .sc .b false, .sc .i 0, .sc .b false])] [] Q =
    (Q (dev_off_z_enc true)) := by kernel_rfl
theorem dev_off_z_w  {Q : CallOut → Prop} (h : Q (dev_off_z_enc (dev_off_z ))) : evalFnP dev_off_z_C dev_off_z_lv dev_off_z_r dev_off_z_hs dev_off_z_b [.rp (.st [.sp 128 [], .nilm, .sp 129 [], .sc .i 0, .sc .b false, .sc .i 0, .sc .b false])] [] Q :=
  Eq.mpr (dev_off_z_e  Q) (have h := Eq.mp (congrArg (fun r => Q (dev_off_z_enc r)) (dev_off_z_q )) h; h)
def dev_off_z_c : Ans
  | [.rp (.st [.sp 128 [], .nilm, .sp 129 [], .sc .i 0, .sc .b false, .sc .i 0, .sc .b false])], [] => some (none, dev_off_z_enc (dev_off_z ))
  | _, _ => none
theorem dev_off_z_tok : TblOK Try.prog noG dev_off_z_T := .nil
theorem dev_off_z_ok : FnOK Try.prog noG 26 (unW dev_off_z_c) := by
  refine FnOK.ofC (T := dev_off_z_T) (nt := 12) (np := 0) (mv := []) (nf := false) (hs := dev_off_z_hs) (fn := Try.f26) (body := dev_off_z_b) dev_off_z_tok (by kernel_rfl) (by kernel_rfl) (by kernel_rfl) (by kernel_rfl) (c := dev_off_z_c) (lv := dev_off_z_lv) ?_
  intro xs mem p out h hp
  unfold dev_off_z_c at h
  split at h
  · cases h
    exact dev_off_z_w  rfl
  · cases h
end
end Go.Proofs.Ytgecpcajmhgboaa.M

namespace Go.Proofs.Ytgecpcajmhgboaa.M
open Go
noncomputable section
set_option maxRecDepth 100000
set_option maxHeartbeats 0
noncomputable def dev_Read_z_T : Tbl := [(26, [], dev_off_z_c), (27, [true, false], dev_state_c)]
noncomputable def dev_Read_z_C : CfgW := mkC Try.prog noG dev_Read_z_T 24 0 false
def dev_Read_z_lv : Nat → List Nat := fun i => []
noncomputable abbrev dev_Read_z_b : Code := Try.f15.body.getD .skip
noncomputable abbrev dev_Read_z_r : List ResultVar := Try.f15.results.toList
def dev_Read_z_hs : List Nat := []

def dev_Read_z_enc (r : Int × List UInt8) : CallOut := ⟨.tup [.o 60000, .pv (.sc .i r.1)], [(60000, .row (.s .u8 r.2) false)], true, []⟩
theorem dev_Read_z_e (n : Int) (Q : CallOut → Prop) : evalFnP dev_Read_z_C dev_Read_z_lv dev_Read_z_r dev_Read_z_hs dev_Read_z_b [.rp (.st [.sp 128 [], .nilm, .sp 129 [], .sc .i 0, .sc .b false, .sc .i 0, .sc .b false]), .pv (.sc .i n)] [] Q =
    (Q (dev_Read_z_enc ((1 : Int), ([] : List UInt8)))) := by kernel_rfl
theorem dev_Read_z_w (n : Int) {Q : CallOut → Prop} (h : Q (dev_Read_z_enc (dev_Read_z n))) : evalFnP dev_Read_z_C dev_Read_z_lv dev_Read_z_r dev_Read_z_hs dev_Read_z_b [.rp (.st [.sp 128 [], .nilm, .sp 129 [], .sc .i 0, .sc .b false, .sc .i 0, .sc .b false]), .pv (.sc .i n)] [] Q :=
  Eq.mpr (dev_Read_z_e n Q) (have h := Eq.mp (congrArg (fun r => Q (dev_Read_z_enc r)) (dev_Read_z_q n)) h; h)
def dev_Read_z_c : Ans
  | [.rp (.st [.sp 128 [], .nilm, .sp 129 [], .sc .i 0, .sc .b false, .sc .i 0, .sc .b false]), .pv (.sc .i n)], [] => some (none, dev_Read_z_enc (dev_Read_z n))
  | _, _ => none
theorem dev_Read_z_tok : TblOK Try.prog noG dev_Read_z_T := .cons ⟨by kernel_rfl, dev_off_z_ok⟩ (.cons ⟨by kernel_rfl, dev_state_ok⟩ (.nil))
theorem dev_Read_z_ok : FnOK Try.prog noG 15 (unW dev_Read_z_c) := by
  refine FnOK.ofC (T := dev_Read_z_T) (nt := 24) (np := 0) (mv := []) (nf := false) (hs := dev_Read_z_hs) (fn := Try.f15) (body := dev_Read_z_b) dev_Read_z_tok (by kernel_rfl) (by kernel_rfl) (by kernel_rfl) (by kernel_rfl) (c := dev_Read_z_c) (lv := dev_Read_z_lv) ?_
  intro xs mem p out h hp
  unfold dev_Read_z_c at h
  split at h
  · cases h
    exact dev_Read_z_w _ rfl
  · cases h
end
end Go.Proofs.Ytgecpcajmhgboaa.M

namespace Go.Proofs.Ytgecpcajmhgboaa.M
open Go Go.RowKit
noncomputable section
set_option maxRecDepth 100000
set_option maxHeartbeats 400000
/-! (*dev.Dev).back: a loop over a map, whatever its order -/
noncomputable def bk_C : CfgW := mkC Try.prog noG [] 25 1
theorem bk_tok : TblOK Try.prog noG [] := .nil
noncomputable abbrev bk_b : Code := Try.f30.body.getD .skip
def bk_lv : Nat → List Nat := fun _ => []
def bkOps : Code → Array Oper
  | .region _ ops _ => ops
  | _ => #[]
noncomputable def bk_l : Code := codeAt [false, true, false, false] bk_b
noncomputable def bk_o0 : Array Oper := bkOps (codeAt [false, false] bk_b)
noncomputable def bk_o1 : Array Oper := bkOps (codeAt [false] bk_l)
noncomputable def bk_o2 : Array Oper := bkOps (codeAt [true, true, false, false] bk_l)
@[irreducible] noncomputable def bk_c3 : Code := codeAt [true, true, false, true] bk_l
@[irreducible] noncomputable def bk_c4 : Code := codeAt [true] bk_b
theorem bk_code : bk_b = .seq (.seq (.region 0 bk_o0 false) (.block 0 (.loop bk_l))) bk_c4 := by kernel_rfl
theorem bk_lcode : bk_l = .seq (.region 1 bk_o1 false) (.seq (.cond (.tmp 10) .skip (.exit 0)) (.block 1 (.seq (.region 2 bk_o2 false) bk_c3))) := by kernel_rfl
def bkAt (ops : Array Oper) (i : Nat) : Oper := (ops[i]?).getD { dst := none, op := .move (.tmp 0), type := 0, pos := "", after := #[], guard := none }
theorem bkAt_eq {ops : Array Oper} {i : Nat} (h : i < ops.size) : ops[i]? = some (bkAt ops i) := by
  unfold bkAt
  rw [Array.getElem?_eq_getElem h]; rfl
section
variable (now : List PV) (sure : List (PV × PV)) (writes : List PV) (done : Int) (cut : Bool) (left : Int) (dark : Bool) (mv it : Value)
def bk_box (m wr : A) : A := .st [.o 60001, m, wr, .pv (.sc .i done), .pv (.sc .b cut), .pv (.sc .i left), .pv (.sc .b dark)]
def bk_LF : List (Nat × Blk) := [(60000, .box (bk_box done cut left dark (.o 60002) (.o 60003))), (60001, .row (.p 128 now) false), (60002, .map sure), (60003, .row (.p 129 writes) false)]
def bk_LM : List (Nat × Blk) := [(60000, .box (bk_box done cut left dark (.pv (.raw mv)) (.o 60002))), (60001, .row (.p 128 now) false), (60002, .row (.p 129 writes) false)]
def bk_s : St := ⟨[(0, .p 60000 []), (8, .pv (.raw it))], bk_LM now writes done cut left dark mv⟩
def bk_e (n : Int) (v : Vector UInt8 128) : St := ⟨[(0, .p 60000 []), (8, .pv (.raw it)), (11, .tup [.pv (.sc .i n), .pv (.arr .u8 128 v)])], bk_LM now writes done cut left dark mv⟩
def bk_t (n : Int) (v : Vector UInt8 128) : St := ⟨[(0, .p 60000 []), (2, .pv (.sc .i n)), (3, .p 60001 []), (8, .pv (.raw it))],
  [(60000, .box (.st [.o 60002, .pv (.raw mv), .o 60003, .pv (.sc .i done), .pv (.sc .b cut), .pv (.sc .i left), .pv (.sc .b dark)])), (60001, .box (.pv (.arr .u8 128 v))), (60002, .row (.p 128 now) false), (60003, .row (.p 129 writes) false)]⟩
theorem bk_E0 (K : St → Prop) : evalOpsP bk_C bk_o0 [bkAt bk_o0 0, bkAt bk_o0 1, bkAt bk_o0 2, bkAt bk_o0 3] ⟨[(0, .p 60000 [])], bk_LF now sure writes done cut left dark⟩ K =
    K ⟨[(7, .o 60002), (6, .p 60000 [.f 1]), (5, .p 60000 []), (4, .p 60000 []), (0, .p 60000 [])], bk_LF now sure writes done cut left dark⟩ := by kernel_rfl
theorem bk_E1 (xs : List A) (b : Bool) (K : St → Prop) : evalOpsP bk_C bk_o1 [bkAt bk_o1 1] ⟨[(0, .p 60000 []), (8, .pv (.raw it)), (9, .tup (.pv (.sc .b b) :: xs))], bk_LM now writes done cut left dark mv⟩ K =
    K ⟨[(10, .pv (.sc .b b)), (0, .p 60000 []), (8, .pv (.raw it)), (9, .tup (.pv (.sc .b b) :: xs))], bk_LM now writes done cut left dark mv⟩ := by kernel_rfl
theorem bk_E2 (n : Int) (v : Vector UInt8 128) (K : St → Prop) : evalOpsP bk_C bk_o2 [bkAt bk_o2 1, bkAt bk_o2 2, bkAt bk_o2 3, bkAt bk_o2 4, bkAt bk_o2 5] (bk_e now writes done cut left dark mv it n v) (fun s => canonP [0, 2, 3, 8] s K) =
    K (bk_t now writes done cut left dark mv it n v) := by kernel_rfl
theorem bk_E3 (n : Int) (v : Vector UInt8 128) (K : St → Prop) : evalP bk_C bk_lv 1 bk_c3 (bk_t now writes done cut left dark mv it n v) (Ex.go (fun _ _ => False) fun s => canonP [0, 8] s K) =
    ((0 ≤ n ∧ n < ((now.length : Nat) : Int)) ∧ (PV.size (List.getD now (Int.toNat n) PV.nilp) = 128 ∧ K (bk_s (now.set n.toNat (.arr .u8 128 v)) writes done cut left dark mv it))) := by kernel_rfl
end

theorem bk_size0 : bk_o0.size = 5 := by kernel_rfl
theorem bk_size1 : bk_o1.size = 2 := by kernel_rfl
theorem bk_size2 : bk_o2.size = 6 := by kernel_rfl
theorem bk_nd0 : bk_o0.toList.all notDefer = true := by kernel_rfl
theorem bk_nd1 : bk_o1.toList.all notDefer = true := by kernel_rfl
theorem bk_nd2 : bk_o2.toList.all notDefer = true := by kernel_rfl
theorem bk_mixed : Try.prog.follows .mixedOrders = true := by kernel_rfl
theorem bk_p3 : plainC bk_c3 = true := by kernel_rfl
theorem bk_p4 : plainC bk_c4 = true := by kernel_rfl
theorem bk_r : (bkAt bk_o0 4).op = .range 57 (.tmp 7) ∧ (bkAt bk_o0 4).guard = none ∧ (bkAt bk_o0 4).dst = some 8 ∧ notDefer (bkAt bk_o0 4) = true := ⟨by kernel_rfl, by kernel_rfl, by kernel_rfl, by kernel_rfl⟩
theorem bk_n : (bkAt bk_o1 0).op = .next (.tmp 8) false ∧ (bkAt bk_o1 0).guard = none ∧ (bkAt bk_o1 0).dst = some 9 ∧ notDefer (bkAt bk_o1 0) = true := ⟨by kernel_rfl, by kernel_rfl, by kernel_rfl, by kernel_rfl⟩
theorem bk_y : (bkAt bk_o2 0).op = .entry (.tmp 8) ∧ (bkAt bk_o2 0).guard = none ∧ (bkAt bk_o2 0).dst = some 11 ∧ notDefer (bkAt bk_o2 0) = true := ⟨by kernel_rfl, by kernel_rfl, by kernel_rfl, by kernel_rfl⟩
theorem bk_map : Try.prog.underlying 57 = some (.map 3 63) := by kernel_rfl

section
variable {k : Wk} {bm r : Nat} {es : Array MapEntry} {clock : Nat} {now : List PV} {sure : List (PV × PV)} {writes : List PV} {done : Int} {cut : Bool} {left : Int} {dark : Bool}
abbrev bk_itv (r : Nat) : Value := .pointer (some ⟨r, 0, none⟩)
/-- within the loop -/
structure BkH (k : Wk) (bm r : Nat) (es : Array MapEntry) (clock : Nat) (writes : List PV) (done : Int) (cut : Bool) (left : Int) (dark : Bool) (E : List (Nat × A)) (β : Nat → Value) (S : Nat → Prop) (seen : Array Nat) (now' : List PV) (a : Act) (w : World) : Prop where
  R : RlF k β S (St.e ⟨E, bk_LM now' writes done cut left dark (.map (some bm))⟩) (lk (bk_LM now' writes done cut left dark (.map (some bm)))) a w
  hm : w.heap[bm]? = some (.map es clock)
  hr : w.heap[r]? = some (.mapIter (some bm) clock seen clock)
  sm : ¬ S bm ∧ ¬ Own β (lk (bk_LM now' writes done cut left dark (.map (some bm)))) bm
  sr : ¬ S r ∧ ¬ Own β (lk (bk_LM now' writes done cut left dark (.map (some bm)))) r
  fm : k.w0.heap.size ≤ bm ∨ k.F bm
  fr : k.w0.heap.size ≤ r
  df : a.defers = []
abbrev bk_E8 (r : Nat) : List (Nat × A) := [(0, .p 60000 []), (8, .pv (.raw (bk_itv r)))]
theorem bk_lt {w : World} {b : Nat} {o : Obj} (h : w.heap[b]? = some o) : b < w.heap.size := (Array.getElem?_eq_some_iff.1 h).1
theorem act_defers {a : Act} (h : a.defers = []) : { a with defers := [] } = a := by
  cases a
  simp only at h
  subst h
  rfl
/-- a piece of the walk in between -/
theorem BkH.piece {E E' : List (Nat × A)} {β β' : Nat → Value} {S S' : Nat → Prop} {seen : Array Nat} {now' now2 : List PV} {a a' : Act} {w w' : World} (hnp : k.np ≤ 1) {e' : Nat → A} (H : BkH k bm r es clock writes done cut left dark E β S seen now' a w)
    (R2 : RlF (subK k β S (lk (bk_LM now' writes done cut left dark (.map (some bm)))) a w 1) β' S' e' (lk (bk_LM now2 writes done cut left dark (.map (some bm)))) a' w')
    (he : ∀ t, St.e ⟨E', bk_LM now2 writes done cut left dark (.map (some bm))⟩ t = e' t ∨ St.e ⟨E', bk_LM now2 writes done cut left dark (.map (some bm))⟩ t = .bad) :
    BkH k bm r es clock writes done cut left dark E' β' S' seen now2 a' w' := by
  have hd : a'.defers = [] := R2.rl.nd rfl
  have J := H.R.join hnp R2
  have ea : { a' with defers := a.defers } = a' := by rw [H.df]; exact act_defers hd
  rw [ea] at J
  have ch := R2.sub_ch
  have out : ∀ b, b < w.heap.size → ¬ S b → ¬ Own β (lk (bk_LM now' writes done cut left dark (.map (some bm)))) b → ¬ S' b ∧ ¬ Own β' (lk (bk_LM now2 writes done cut left dark (.map (some bm)))) b := fun b hb h1 h2 => by
    refine ⟨fun hs => ?_, fun ho => ?_⟩
    · rcases R2.rl.sg b hs with q | q | q
      · exact h1 q
      · exact absurd hb (Nat.not_lt.2 q)
      · exact h2 q
    · obtain ⟨n, blk, q1, q2⟩ := ho
      rcases (R2.rl.mem.own n blk q1 b q2).2.2 with q | q
      · exact absurd hb (Nat.not_lt.2 q)
      · exact h2 q
  refine ⟨⟨J.rl, fun t => ?_, fun t ht => ?_⟩, (ch.keep bm (bk_lt H.hm) H.sm.2).trans H.hm, (ch.keep r (bk_lt H.hr) H.sr.2).trans H.hr, out bm (bk_lt H.hm) H.sm.1 H.sm.2, out r (bk_lt H.hr) H.sr.1 H.sr.2, H.fm, H.fr, hd⟩
  · rcases he t with h | h
    · rw [h]; exact J.env t
    · rw [h]; exact RepA.bad _
  · rcases he t with h | h
    · rw [h]; exact J.big t ht
    · exact h
theorem BkH.put {E E' : List (Nat × A)} {β : Nat → Value} {S : Nat → Prop} {seen : Array Nat} {now' : List PV} {a : Act} {w : World} (H : BkH k bm r es clock writes done cut left dark E β S seen now' a w) {d : Nat} (hp : k.np ≤ d) (hd : d < k.nt) {x : A} {v : Value} (hx : RepA β S w.heap (lk (bk_LM now' writes done cut left dark (.map (some bm)))) x v)
    (he : ∀ t, (d = t ∧ St.e ⟨E', bk_LM now' writes done cut left dark (.map (some bm))⟩ t = x) ∨ (d ≠ t ∧ St.e ⟨E', bk_LM now' writes done cut left dark (.map (some bm))⟩ t = St.e ⟨E, bk_LM now' writes done cut left dark (.map (some bm))⟩ t) ∨ St.e ⟨E', bk_LM now' writes done cut left dark (.map (some bm))⟩ t = .bad) :
    BkH k bm r es clock writes done cut left dark E' β S seen now' (a.put (some d) v) w :=
  ⟨H.R.put1 hp hd hx he, H.hm, H.hr, H.sm, H.sr, H.fm, H.fr, H.df⟩
theorem BkH.enter {E : List (Nat × A)} {β : Nat → Value} {S : Nat → Prop} {seen : Array Nat} {now' : List PV} {a : Act} {w : World} (H : BkH k bm r es clock writes done cut left dark E β S seen now' a w) :
    RlF (subK k β S (lk (bk_LM now' writes done cut left dark (.map (some bm)))) a w 1) β S (St.e ⟨E, bk_LM now' writes done cut left dark (.map (some bm))⟩) (lk (bk_LM now' writes done cut left dark (.map (some bm)))) a w := by
  have := H.R.enter 1
  rw [act_defers H.df] at this
  exact this
/-- the iterator has gone on -/
theorem BkH.seen {E : List (Nat × A)} {β : Nat → Value} {S : Nat → Prop} {seen : Array Nat} {now' : List PV} {a : Act} {w w1 : World} (H : BkH k bm r es clock writes done cut left dark E β S seen now' a w) (h1 : w1 = w ∨ w1 = w.drew) (seen' : Array Nat) :
    BkH k bm r es clock writes done cut left dark E β S seen' now' a (Go.ChangeMaps.setBlock w1 r (.mapIter (some bm) clock seen' clock)) := by
  have hh : ∀ b, (Go.ChangeMaps.setBlock w1 r (.mapIter (some bm) clock seen' clock)).heap[b]? = if b = r then some (.mapIter (some bm) clock seen' clock) else w.heap[b]? := fun b => by
    rcases h1 with rfl | rfl <;> exact heap_set (bk_lt H.hr)
  have ho : ∀ b, b ≠ r → (Go.ChangeMaps.setBlock w1 r (.mapIter (some bm) clock seen' clock)).heap[b]? = w.heap[b]? := fun b hb => by rw [hh, if_neg hb]
  have hne : bm ≠ r := fun e => by
    have := H.hm
    rw [e, H.hr] at this
    cases this
  refine ⟨H.R.turn (fun b hb => ho b fun e => H.sr.1 (e ▸ hb)) (fun b hb => ho b fun e => H.sr.2 (e ▸ hb)) ?_ (fun b hb _ => ho b fun e => ?_) ?_ ?_ ?_, (ho bm hne).trans H.hm, ?_, H.sm, H.sr, H.fm, H.fr, H.df⟩
  · rcases h1 with rfl | rfl <;> exact Nat.le_of_eq (Array.size_setIfInBounds ..).symm
  · have := H.fr
    omega
  · rcases h1 with rfl | rfl <;> rfl
  · rcases h1 with rfl | rfl <;> rfl
  · rcases h1 with rfl | rfl <;> rfl
  · rw [hh, if_pos rfl]
end

/-- what has been laid back -/
def bkDone (es : Array MapEntry) (seen : Array Nat) (i : Nat) : Prop := ∃ e ∈ es.toList, seen.contains e.born = true ∧ e.key = EK.i.enc ((i : Nat) : Int)
theorem bk_enc {x y : Int} (h : EK.i.enc x = EK.i.enc y) : x = y := by cases h; rfl
section
variable {k : Wk} {bm r : Nat} {es : Array MapEntry} {clock : Nat} {now : List PV} {sure : List (PV × PV)} {writes : List PV} {done : Int} {cut : Bool} {left : Int} {dark : Bool} {Q : Exit → Act → World → Prop}
theorem bk_round (hG : k.G = noG) (hnt : k.nt = 25) (hnp : k.np = 1) (hd : devC now sure writes) (hes : RepM (fun _ => False) #[] sure es.toList) (hb : Born clock es.toList) (hq : ¬ LetsOut Q) {β : Nat → Value} {S : Nat → Prop} {seen : Array Nat} {now' : List PV} {a : Act} {w : World}
    (H : BkH k bm r es clock writes done cut left dark (bk_E8 r) β S seen now' a w) (hl : Laid now (backV now sure) now' (bkDone es seen))
    (hend : (leftOf es seen).size = 0 → ∀ β' S' a' w', BkH k bm r es clock writes done cut left dark (bk_E8 r) β' S' seen now' a' w' → Q (.exit 0) a' w') {Kn : Act → World → Prop}
    (hnext : ∀ e ∈ (leftOf es seen).toList, ∀ now2 β' S' a' w', Laid now (backV now sure) now2 (bkDone es (seen.push e.born)) → BkH k bm r es clock writes done cut left dark (bk_E8 r) β' S' (seen.push e.born) now2 a' w' → Kn a' w') :
    bk_l.wpIn (FR none) 0 Try.prog (Exit.then Kn Q) a w := by
  have hnp' : k.np ≤ 1 := by omega
  have hsub : ∀ {β S L a w}, (subK k β S L a w 1).G = bk_C.G ∧ (subK k β S L a w 1).nt = bk_C.nt ∧ (subK k β S L a w 1).np = bk_C.np := fun {_ _ _ _ _} => ⟨hG, hnt, rfl⟩
  have q1 : ¬ LetsOut (Exit.then Kn Q) := fun ⟨a, w, h⟩ => hq ⟨a, w, h⟩
  rw [bk_lcode]
  refine wpIn_seq (wpIn_region ?_)
  generalize hQ1 : (Exit.then (Code.wpIn (FR none) 0 Try.prog (.seq (.cond (.tmp 10) .skip (.exit 0)) (.block 1 (.seq (.region 2 bk_o2 false) bk_c3))) (Exit.then Kn Q)) (Exit.then Kn Q) : Exit → Act → World → Prop) = Q1
  have hq1 : ¬ LetsOut Q1 := by
    subst hQ1
    exact fun ⟨a, w, h⟩ => q1 ⟨a, w, h⟩
  rw [show List.range bk_o1.size = [0, 1] from by rw [bk_size1]; rfl]
  obtain ⟨n1, n2, n3, n4⟩ := bk_n
  have ev8 : a.eval (.tmp 8) = bk_itv r := by
    have := H.R.env 8
    obtain ⟨vs, h1, h2⟩ := this
    cases h1 with
    | pv h => cases h with
      | raw h3 h4 => exact h2
  have hold : ∀ x ∈ es.toList, x.born < clock := hb.1
  have hnodup : (es.toList.map (·.born)).Nodup := List.pairwise_map.2 (hb.2.imp fun h => Nat.ne_of_lt h)
  have mv1 : ∀ (v : Bool) (xs : List A) {β : Nat → Value} {S : Nat → Prop} {seen : Array Nat} {a : Act} {w : World} (H : BkH k bm r es clock writes done cut left dark [(0, .p 60000 []), (8, .pv (.raw (bk_itv r))), (9, .tup (.pv (.sc .b v) :: xs))] β S seen now' a w)
      {Q' : Exit → Act → World → Prop} (hq' : ¬ LetsOut Q') (hK : ∀ β' S' a' w', a'.eval (.tmp 10) = .bool v → BkH k bm r es clock writes done cut left dark (bk_E8 r) β' S' seen now' a' w' → Q' .normal a' w'), wpOpsIn (FR none) 0 Try.prog bk_o1 Q' [1] a w := by
    intro v xs β S seen a w H Q' hq' hK
    refine pre_run (C := bk_C) (mkC_ok bk_tok) hsub.1 hsub.2 hq' bk_nd1 (os := [bkAt bk_o1 1]) (i := 1) (rest := []) (K := fun s => s = ⟨[(10, .pv (.sc .b v)), (0, .p 60000 []), (8, .pv (.raw (bk_itv r))), (9, .tup (.pv (.sc .b v) :: xs))], bk_LM now' writes done cut left dark (.map (some bm))⟩) (fun j hj => ?_) ?_ rfl (fun st' hst β' S' a' w' R' => ?_) H.enter
    · have : j = 0 := by simpa using hj
      subst this
      exact bkAt_eq (i := 1) (by rw [bk_size1]; decide)
    · have e := bk_E1 now' writes done cut left dark (.map (some bm)) (bk_itv r) xs v (fun s => s = ⟨[(10, .pv (.sc .b v)), (0, .p 60000 []), (8, .pv (.raw (bk_itv r))), (9, .tup (.pv (.sc .b v) :: xs))], bk_LM now' writes done cut left dark (.map (some bm))⟩)
      exact Eq.mpr e rfl
    · subst hst
      refine hK β' S' a' w' ?_ (H.piece hnp' R' fun t => ?_)
      · have := R'.env 10
        obtain ⟨vs, h1, h2⟩ := this
        cases h1 with
        | pv h => cases h with
          | sc => exact h2
      · simp only [St.e, lk_cons]
        by_cases h0 : 0 = t
        · subst h0; exact .inl rfl
        · by_cases h8 : 8 = t
          · subst h8; exact .inl rfl
          · rw [if_neg h0, if_neg h8]; exact .inr rfl
  rcases run_next_at (P := Try.prog) w (bkAt bk_o1 0).type r bm clock clock seen es clock H.hr H.hm hold (Nat.le_refl _) with ⟨h0, hrun⟩ | ⟨e, he, w1, hw1, hrun⟩
  · refine op_run (bkAt_eq (by rw [bk_size1]; decide)) n2 n3 n4 (run_next_op n1 (by rw [ev8]; exact hrun)) ?_
    refine mv1 false [] (H.put (x := .tup [.pv (.sc .b false)]) (by omega) (by omega) ⟨[.tuple #[.bool false]], .tup (.cons (.pv (.sc .b false)) .nil), rfl⟩ fun t => ?_) hq1 fun β' S' a' w' e10 H' => ?_
    · simp only [St.e, lk_cons]
      by_cases h0 : 0 = t
      · subst h0; exact .inr (.inl ⟨by decide, rfl⟩)
      · by_cases h8 : 8 = t
        · subst h8; exact .inr (.inl ⟨by decide, rfl⟩)
        · by_cases h9 : 9 = t
          · subst h9; exact .inl ⟨rfl, rfl⟩
          · rw [if_neg h0, if_neg h8, if_neg h9]; exact .inr (.inr rfl)
    · subst hQ1
      exact wpIn_seq (wpIn_cond_false e10 (wpIn_exit (hend h0 β' S' a' w' H')))
  · refine op_run (bkAt_eq (by rw [bk_size1]; decide)) n2 n3 n4 (run_next_op n1 (by rw [ev8]; exact hrun)) ?_
    obtain ⟨hes1, hes2⟩ := mem_left he
    obtain ⟨p, cs, vs, hp, rp1, rp2, ek, ev⟩ := hes.at hes1
    obtain ⟨d1, d2, d3⟩ := devB_iff.1 hd.b
    obtain ⟨n, v, rfl⟩ := sureB_at d2 hp
    obtain ⟨n', hn', hn0, hn1⟩ := hd.k.lt _ hp
    cases hn'
    have hi : n.toNat < now.length := by omega
    have ka : RepA (fun _ => undef) (fun _ => False) #[] (fun _ => none) (.pv (.sc .i n)) e.key := ⟨cs, .pv rp1, ek⟩
    have kb : RepA (fun _ => undef) (fun _ => False) #[] (fun _ => none) (.pv (.arr .u8 128 v)) e.val := ⟨vs, .pv rp2, ev⟩
    have up : ∀ {x : PV} {u : Value} {β : Nat → Value} {S : Nat → Prop} {h : Array Obj} {L : Nat → Option Blk}, RepA (fun _ => undef) (fun _ => False) #[] (fun _ => none) (.pv x) u → RepA β S h L (.pv x) u := fun {x u β S h L} r => by
      obtain ⟨us, r1, rfl⟩ := r.pv_inv
      exact RepA.pv (r1.mono (fun _ h => h.elim) (fun _ h => h.elim))
    have tupT : ∀ {β : Nat → Value} {S : Nat → Prop} {h : Array Obj} {L : Nat → Option Blk}, RepT β S h L [.pv (.sc .i n), .pv (.arr .u8 128 v)] [e.key, e.val] := fun {β S h L} => by
      obtain ⟨u1, r1, e1⟩ := (up ka : RepA β S h L _ _)
      obtain ⟨u2, r2, e2⟩ := (up kb : RepA β S h L _ _)
      rw [e1, e2]
      exact .cons r1 (.cons r2 .nil)
    have H2 := H.seen hw1 (seen.push e.born)
    refine mv1 true [.pv (.sc .i n), .pv (.arr .u8 128 v)] (H2.put (x := .tup [.pv (.sc .b true), .pv (.sc .i n), .pv (.arr .u8 128 v)]) (by omega) (by omega) ⟨[.tuple #[.bool true, e.key, e.val]], .tup (.cons (.pv (.sc .b true)) tupT), rfl⟩ fun t => ?_) hq1 fun β' S' a' w' e10 H' => ?_
    · simp only [St.e, lk_cons]
      by_cases h0 : 0 = t
      · subst h0; exact .inr (.inl ⟨by decide, rfl⟩)
      · by_cases h8 : 8 = t
        · subst h8; exact .inr (.inl ⟨by decide, rfl⟩)
        · by_cases h9 : 9 = t
          · subst h9; exact .inl ⟨rfl, rfl⟩
          · rw [if_neg h0, if_neg h8, if_neg h9]; exact .inr (.inr rfl)
    subst hQ1
    refine wpIn_seq (wpIn_cond_true e10 (wpIn_skip (wpIn_block (wpIn_seq (wpIn_region ?_)))))
    generalize hQ2 : (Exit.then (Code.wpIn (FR none) 0 Try.prog bk_c3 (Exit.inBlock 1 (Exit.then Kn Q))) (Exit.inBlock 1 (Exit.then Kn Q)) : Exit → Act → World → Prop) = Q2
    have hq2 : ¬ LetsOut Q2 := by
      subst hQ2
      exact fun ⟨a, w, h⟩ => q1 ⟨a, w, h⟩
    rw [show List.range bk_o2.size = [0, 1, 2, 3, 4, 5] from by rw [bk_size2]; rfl]
    obtain ⟨y1, y2, y3, y4⟩ := bk_y
    have ev8' : a'.eval (.tmp 8) = bk_itv r := by
      have := H'.R.env 8
      obtain ⟨vs, h1, h2⟩ := this
      cases h1 with
      | pv h => cases h with
        | raw h3 h4 => exact h2
    have hent := run_entry_at (P := Try.prog) w' r bm clock seen es clock e H'.hr H'.hm hes1 hnodup
    refine op_run (bkAt_eq (by rw [bk_size2]; decide)) y2 y3 y4 (run_entry_op y1 (by rw [ev8']; exact hent)) ?_
    have H3 := H'.put (E' := [(0, .p 60000 []), (8, .pv (.raw (bk_itv r))), (11, .tup [.pv (.sc .i n), .pv (.arr .u8 128 v)])]) (d := 11) (x := .tup [.pv (.sc .i n), .pv (.arr .u8 128 v)]) (v := .tuple #[e.key, e.val]) (by omega) (by omega) ⟨[.tuple #[e.key, e.val]], .tup tupT, rfl⟩ fun t => by
      simp only [St.e, lk_cons]
      by_cases h0 : 0 = t
      · subst h0; exact .inr (.inl ⟨by decide, rfl⟩)
      · by_cases h8 : 8 = t
        · subst h8; exact .inr (.inl ⟨by decide, rfl⟩)
        · by_cases h11 : 11 = t
          · subst h11; exact .inl ⟨rfl, rfl⟩
          · rw [if_neg h0, if_neg h8, if_neg h11]; exact .inr (.inr rfl)
    have H3R := H3.enter
    refine pre_run (C := bk_C) (mkC_ok bk_tok) hsub.1 hsub.2 hq2 bk_nd2 (os := [bkAt bk_o2 1, bkAt bk_o2 2, bkAt bk_o2 3, bkAt bk_o2 4, bkAt bk_o2 5]) (i := 1) (rest := []) (K := fun s => canonP [0, 2, 3, 8] s fun s => s = bk_t now' writes done cut left dark (.map (some bm)) (bk_itv r) n v) (fun j hj => ?_) ?_ rfl (fun st' hst β' S' a' w' R' => ?_) H3R
    · match j, hj with
      | 0, _ => exact bkAt_eq (i := 1) (by rw [bk_size2]; decide)
      | 1, _ => exact bkAt_eq (i := 2) (by rw [bk_size2]; decide)
      | 2, _ => exact bkAt_eq (i := 3) (by rw [bk_size2]; decide)
      | 3, _ => exact bkAt_eq (i := 4) (by rw [bk_size2]; decide)
      | 4, _ => exact bkAt_eq (i := 5) (by rw [bk_size2]; decide)
    · have e := bk_E2 now' writes done cut left dark (.map (some bm)) (bk_itv r) n v (fun s => s = bk_t now' writes done cut left dark (.map (some bm)) (bk_itv r) n v)
      unfold bk_e at e
      rw [e]
    · obtain ⟨s2, hs2, rfl⟩ := optP_iff.1 hst
      obtain ⟨β2, R2⟩ := canon_sound hs2 R'
      subst hQ2
      have hlen : now'.length = now.length := hl.len
      have hsz : PV.size (List.getD now' (Int.toNat n) PV.nilp) = 128 := by
        have hbk : TY.chk secT ((backV now sure).getD n.toNat .nilp) = true := secB_at (backV_secB d1 d2) (by rw [backV_len]; exact hi)
        rcases hl.mid n.toNat hi with h | h
        · rw [h]
          obtain ⟨u, hu⟩ := sec_of hbk
          rw [hu]; rfl
        · rw [h]
          obtain ⟨u, hu⟩ := sec_of (secB_at d1 hi)
          rw [hu]; rfl
      show Code.wpIn (FR none) 0 bk_C.P bk_c3 (Exit.inBlock 1 (Exit.then Kn Q)) a' w'
      refine evalP_soundIn (C := bk_C) (Q := Exit.inBlock 1 (Exit.then Kn Q)) (mkC_ok bk_tok) bk_mixed hsub.1 hsub.2 (lv := bk_lv) bk_c3 1 bk_p3 (fun ⟨a, w, h⟩ => q1 ⟨a, w, h⟩) (Eq.mpr (bk_E3 now' writes done cut left dark (.map (some bm)) (bk_itv r) n v (fun s => s = bk_s (now'.set n.toNat (.arr .u8 128 v)) writes done cut left dark (.map (some bm)) (bk_itv r))) ⟨⟨hn0, by rw [hlen]; exact hn1⟩, hsz, rfl⟩)
        (fun ex st4 h4 β4 S4 a4 w4 R4 => ?_) R2
      cases ex with
      | exit i => exact h4.elim
      | ret => exact h4.elim
      | normal =>
        obtain ⟨s5, hs5, rfl⟩ := optP_iff.1 h4
        obtain ⟨β5, R5⟩ := canon_sound hs5 R4
        have HF := H3.piece hnp' R5 (E' := bk_E8 r) fun t => .inl rfl
        show Kn a4 w4
        refine hnext e he _ β5 S4 a4 w4 (hl.set hi ?_ fun j hj => ?_) HF
        · rw [backV_at _ _ hi]
          have := mget_of hd.k hp
          rw [show ((n.toNat : Nat) : Int) = n from Int.toNat_of_nonneg hn0, this]; rfl
        · obtain ⟨e', m1, m2, m3⟩ := hj
          rw [contains_push, Bool.or_eq_true] at m2
          rcases m2 with m2 | m2
          · exact .inl ⟨e', m1, m2, m3⟩
          · right
            have : e' = e := born_inj hnodup m1 hes1 (by simpa using m2)
            subst this
            cases rp1
            rw [m3] at ek
            have : ((j : Nat) : Int) = n := bk_enc ek
            omega
end

/-! ### the loop -/
section
variable {k : Wk} {bm r : Nat} {es : Array MapEntry} {clock : Nat} {now : List PV} {sure : List (PV × PV)} {writes : List PV} {done : Int} {cut : Bool} {left : Int} {dark : Bool} {Q : Exit → Act → World → Prop}
theorem bk_loop (hG : k.G = noG) (hnt : k.nt = 25) (hnp : k.np = 1) (hd : devC now sure writes) (hes : RepM (fun _ => False) #[] sure es.toList) (hb : Born clock es.toList) (hq : ¬ LetsOut Q)
    (hend : ∀ seen now2 β' S' a' w', (leftOf es seen).size = 0 → Laid now (backV now sure) now2 (bkDone es seen) → BkH k bm r es clock writes done cut left dark (bk_E8 r) β' S' seen now2 a' w' → Q (.exit 0) a' w') :
    ∀ (m : Nat) {seen : Array Nat} {now' : List PV} {β : Nat → Value} {S : Nat → Prop} {a : Act} {w : World}, (leftOf es seen).size < m → Laid now (backV now sure) now' (bkDone es seen) →
      BkH k bm r es clock writes done cut left dark (bk_E8 r) β S seen now' a w → Code.roundsIn (FR none) 0 Try.prog bk_l Q m a w
  | 0, _, _, _, _, _, _, hm, _, _ => absurd hm (Nat.not_lt_zero _)
  | m + 1, seen, now', β, S, a, w, hm, hl, H => by
    rw [roundsIn_succ]
    refine bk_round hG hnt hnp hd hes hb hq H hl (fun h0 β' S' a' w' H' => hend seen now' β' S' a' w' h0 hl H') fun e he now2 β' S' a' w' hl' H' => ?_
    exact bk_loop hG hnt hnp hd hes hb hq hend m (by have := left_shrinks es seen e he; omega) hl' H'
end

/-! ### in and out -/
section
variable {k : Wk} {β : Nat → Value} {S : Nat → Prop} {h : Array Obj} {N0 : Nat} {F : Nat → Prop} {now : List PV} {sure : List (PV × PV)} {writes : List PV} {done : Int} {cut : Bool} {left : Int} {dark : Bool}
theorem lk3 {x y z b : Blk} {n : Nat} (h : lk [(60000, x), (60001, y), (60002, z)] n = some b) : (n = 60000 ∧ b = x) ∨ (n = 60001 ∧ b = y) ∨ (n = 60002 ∧ b = z) := by
  rw [lk_cons] at h
  split at h
  · rename_i e; exact .inl ⟨e.symm, (Option.some.inj h).symm⟩
  · rw [lk_cons] at h
    split at h
    · rename_i e; exact .inr (.inl ⟨e.symm, (Option.some.inj h).symm⟩)
    · rw [lk_cons] at h
      split at h
      · rename_i e; exact .inr (.inr ⟨e.symm, (Option.some.inj h).symm⟩)
      · cases h
theorem lk3' {x y z b : Blk} {n : Nat} (h : lk [(60001, x), (60002, y), (60003, z)] n = some b) : (n = 60001 ∧ b = x) ∨ (n = 60002 ∧ b = y) ∨ (n = 60003 ∧ b = z) := by
  rw [lk_cons] at h
  split at h
  · rename_i e; exact .inl ⟨e.symm, (Option.some.inj h).symm⟩
  · rw [lk_cons] at h
    split at h
    · rename_i e; exact .inr (.inl ⟨e.symm, (Option.some.inj h).symm⟩)
    · rw [lk_cons] at h
      split at h
      · rename_i e; exact .inr (.inr ⟨e.symm, (Option.some.inj h).symm⟩)
      · cases h
theorem lk4 {x y z u b : Blk} {n : Nat} (h : lk [(60000, x), (60001, y), (60002, z), (60003, u)] n = some b) : (n = 60000 ∧ b = x) ∨ (n = 60001 ∧ b = y) ∨ (n = 60002 ∧ b = z) ∨ (n = 60003 ∧ b = u) := by
  rw [lk_cons] at h
  split at h
  · rename_i e; exact .inl ⟨e.symm, (Option.some.inj h).symm⟩
  · rcases lk3' h with h | h | h
    · exact .inr (.inl h)
    · exact .inr (.inr (.inl h))
    · exact .inr (.inr (.inr h))
def bkβ (β : Nat → Value) : Nat → Value := fun n => if n = 60002 then β 60003 else β n
def bkβ' (β : Nat → Value) (bm : Nat) : Nat → Value := fun n => if n = 60002 then .map (some bm) else if n = 60003 then β 60002 else β n
theorem RepCL.cons_inv {β : Nat → Value} {S : Nat → Prop} {h : Array Obj} {L : Nat → Option Blk} {x : A} {xs : List A} {vs : List Value} (r : RepCL β S h L (x :: xs) vs) : ∃ a b, vs = a ++ b ∧ RepC β S h L x a ∧ RepCL β S h L xs b := by
  cases r with
  | cons a b => exact ⟨_, _, rfl, a, b⟩
theorem RepC.o_inv {β : Nat → Value} {S : Nat → Prop} {h : Array Obj} {L : Nat → Option Blk} {n : Nat} {vs : List Value} (r : RepC β S h L (.o n) vs) : vs = [β n] := by
  cases r; rfl
theorem RepC.pv_inv {β : Nat → Value} {S : Nat → Prop} {h : Array Obj} {L : Nat → Option Blk} {x : PV} {vs : List Value} (r : RepC β S h L (.pv x) vs) : RepPV S h x vs := by
  cases r; assumption
theorem RepPV.raw_inv {S : Nat → Prop} {h : Array Obj} {v : Value} {vs : List Value} (r : RepPV S h (.raw v) vs) : vs = [v] := by
  cases r; rfl
theorem row_up {β β' : Nat → Value} {L L' : Nat → Option Blk} {n n' : Nat} {rc : RC} {ex : Bool} (e : β' n' = β n) (o : BlkOK β S h L n (.row rc ex)) : BlkOK β' S h L' n' (.row rc ex) := by
  obtain ⟨a, cap, o1, o2⟩ := o
  exact ⟨a, cap, e.trans o1, o2⟩
theorem scs_up {β β' : Nat → Value} {L L' : Nat → Option Blk} {vs : List Value} (r : RepCL β S h L [.pv (.sc .i done), .pv (.sc .b cut), .pv (.sc .i left), .pv (.sc .b dark)] vs) : RepCL β' S h L' [.pv (.sc .i done), .pv (.sc .b cut), .pv (.sc .i left), .pv (.sc .b dark)] vs := by
  obtain ⟨_, _, rfl, r1, r⟩ := r.cons_inv
  obtain ⟨_, _, rfl, r2, r⟩ := r.cons_inv
  obtain ⟨_, _, rfl, r3, r⟩ := r.cons_inv
  obtain ⟨_, _, rfl, r4, r⟩ := r.cons_inv
  cases r
  exact .cons (.pv r1.pv_inv) (.cons (.pv r2.pv_inv) (.cons (.pv r3.pv_inv) (.cons (.pv r4.pv_inv) .nil)))
theorem bk_open (M : MS β S h N0 F (lk (bk_LF now sure writes done cut left dark))) :
    ∃ bm es clock, β 60002 = .map (some bm) ∧ h[bm]? = some (.map es clock) ∧ RepM S h sure es.toList ∧ Born clock es.toList ∧ (¬ S bm ∧ ¬ Own (bkβ β) (lk (bk_LM now writes done cut left dark (.map (some bm)))) bm) ∧ (N0 ≤ bm ∨ F bm) ∧
      MS (bkβ β) S h N0 F (lk (bk_LM now writes done cut left dark (.map (some bm)))) := by
  obtain ⟨bm, es, clock, e1, e2, e3, e4⟩ := M.blk 60002 (.map sure) rfl
  have ownm := M.own 60002 (.map sure) rfl bm (by rw [e1]; rfl)
  have back : ∀ {n b}, lk (bk_LM now writes done cut left dark (.map (some bm))) n = some b → ∃ n0 b0, lk (bk_LF now sure writes done cut left dark) n0 = some b0 ∧ bkβ β n = β n0 ∧ n0 ≠ 60002 ∧ (n0 = if n = 60002 then 60003 else n) := fun {n b} hb => by
    rcases lk3 hb with ⟨rfl, _⟩ | ⟨rfl, _⟩ | ⟨rfl, _⟩
    · exact ⟨60000, _, rfl, rfl, by decide, rfl⟩
    · exact ⟨60001, _, rfl, rfl, by decide, rfl⟩
    · exact ⟨60003, _, rfl, rfl, by decide, rfl⟩
  refine ⟨bm, es, clock, e1, e2, e3, e4, ⟨ownm.1, fun ⟨n, b, h1, h2⟩ => ?_⟩, ownm.2.2, ?_⟩
  · obtain ⟨n0, b0, q1, q2, q3, _⟩ := back h1
    rw [q2] at h2
    exact M.sep n0 60002 q3 (by rw [q1]; rfl) rfl bm h2 (by rw [e1]; rfl)
  · refine ⟨fun n b hb => ?_, fun n b hb q hq => ?_, fun n m hnm h1 h2 q hq => ?_, M.bound⟩
    · rcases lk3 hb with ⟨rfl, rfl⟩ | ⟨rfl, rfl⟩ | ⟨rfl, rfl⟩
      · obtain ⟨b, cs, T, o1, o2, o3⟩ := M.blk 60000 _ rfl
        refine ⟨b, cs, T, o1, o2, ?_⟩
        cases o3 with
        | st r =>
          obtain ⟨_, _, hcs, r1, r⟩ := r.cons_inv
          obtain ⟨_, _, rfl, r2, r⟩ := r.cons_inv
          obtain ⟨_, _, rfl, r3, r⟩ := r.cons_inv
          rw [hcs, r1.o_inv, r2.o_inv, r3.o_inv, e1]
          refine .st (.cons (x := .o 60001) ?_ (.cons (x := .pv (.raw (.map (some bm)))) (.pv (.raw rfl rfl)) (.cons (x := .o 60002) ?_ (scs_up r))))
          · exact RepC.o (β := bkβ β) (n := 60001) (L := lk (bk_LM now writes done cut left dark (.map (some bm)))) (blk := .row (.p 128 now) false) rfl rfl
          · exact RepC.o (β := bkβ β) (n := 60002) (L := lk (bk_LM now writes done cut left dark (.map (some bm)))) (blk := .row (.p 129 writes) false) rfl rfl
      · exact row_up (β := β) (L := lk (bk_LF now sure writes done cut left dark)) (n := 60001) rfl (M.blk 60001 _ rfl)
      · exact row_up (β := β) (L := lk (bk_LF now sure writes done cut left dark)) (n := 60003) rfl (M.blk 60003 _ rfl)
    · obtain ⟨n0, b0, q1, q2, _⟩ := back hb
      rw [q2] at hq
      exact M.own n0 b0 q1 q hq
    · obtain ⟨b1, h1⟩ := Option.isSome_iff_exists.1 h1
      obtain ⟨b2, h2⟩ := Option.isSome_iff_exists.1 h2
      obtain ⟨n0, b0, q1, q2, _, q4⟩ := back h1
      obtain ⟨m0, c0, p1, p2, _, p4⟩ := back h2
      rw [q2] at hq
      rw [p2]
      refine M.sep n0 m0 ?_ (by rw [q1]; rfl) (by rw [p1]; rfl) q hq
      rcases lk3 h1 with ⟨rfl, _⟩ | ⟨rfl, _⟩ | ⟨rfl, _⟩ <;> rcases lk3 h2 with ⟨rfl, _⟩ | ⟨rfl, _⟩ | ⟨rfl, _⟩ <;> simp at hnm <;> simp [q4, p4]
theorem bk_close {bm : Nat} {es : Array MapEntry} {clock : Nat} (M : MS β S h N0 F (lk (bk_LM now writes done cut left dark (.map (some bm))))) (hm : h[bm]? = some (.map es clock)) (hr : RepM S h sure es.toList) (hbo : Born clock es.toList) (sm : ¬ S bm ∧ ¬ Own β (lk (bk_LM now writes done cut left dark (.map (some bm)))) bm) (fm : N0 ≤ bm ∨ F bm) :
    MS (bkβ' β bm) S h N0 F (lk (bk_LF now sure writes done cut left dark)) := by
  have hlt : bm < h.size := (Array.getElem?_eq_some_iff.1 hm).1
  have back : ∀ {n b}, lk (bk_LF now sure writes done cut left dark) n = some b → n ≠ 60002 → ∃ n0 b0, lk (bk_LM now writes done cut left dark (.map (some bm))) n0 = some b0 ∧ bkβ' β bm n = β n0 ∧ (n0 = if n = 60003 then 60002 else n) := fun {n b} hb hn => by
    rcases lk4 hb with ⟨rfl, _⟩ | ⟨rfl, _⟩ | ⟨rfl, _⟩ | ⟨rfl, _⟩
    · exact ⟨60000, _, rfl, rfl, rfl⟩
    · exact ⟨60001, _, rfl, rfl, rfl⟩
    · exact absurd rfl hn
    · exact ⟨60002, _, rfl, rfl, rfl⟩
  have e2 : bkβ' β bm 60002 = .map (some bm) := rfl
  refine ⟨fun n b hb => ?_, fun n b hb q hq => ?_, fun n m hnm h1 h2 q hq => ?_, M.bound⟩
  · rcases lk4 hb with ⟨rfl, rfl⟩ | ⟨rfl, rfl⟩ | ⟨rfl, rfl⟩ | ⟨rfl, rfl⟩
    · obtain ⟨b, cs, T, o1, o2, o3⟩ := M.blk 60000 _ rfl
      refine ⟨b, cs, T, o1, o2, ?_⟩
      cases o3 with
      | st r =>
        obtain ⟨_, _, hcs, r1, r⟩ := r.cons_inv
        obtain ⟨_, _, rfl, r2, r⟩ := r.cons_inv
        obtain ⟨_, _, rfl, r3, r⟩ := r.cons_inv
        rw [hcs, r1.o_inv, r2.pv_inv.raw_inv, r3.o_inv]
        refine .st (.cons (x := .o 60001) ?_ (.cons (x := .o 60002) ?_ (.cons (x := .o 60003) ?_ (scs_up r))))
        · exact RepC.o (β := bkβ' β bm) (n := 60001) (L := lk (bk_LF now sure writes done cut left dark)) (blk := .row (.p 128 now) false) rfl rfl
        · exact RepC.o (β := bkβ' β bm) (n := 60002) (L := lk (bk_LF now sure writes done cut left dark)) (blk := .map sure) rfl rfl
        · exact RepC.o (β := bkβ' β bm) (n := 60003) (L := lk (bk_LF now sure writes done cut left dark)) (blk := .row (.p 129 writes) false) rfl rfl
    · exact row_up (β := β) (L := lk (bk_LM now writes done cut left dark (.map (some bm)))) (n := 60001) rfl (M.blk 60001 _ rfl)
    · exact ⟨bm, es, clock, rfl, hm, hr, hbo⟩
    · exact row_up (β := β) (L := lk (bk_LM now writes done cut left dark (.map (some bm)))) (n := 60002) rfl (M.blk 60002 _ rfl)
  · by_cases hn : n = 60002
    · subst hn
      have : bm = q := hq
      subst this
      exact ⟨sm.1, hlt, fm⟩
    · obtain ⟨n0, b0, q1, q2, _⟩ := back hb hn
      rw [q2] at hq
      exact M.own n0 b0 q1 q hq
  · obtain ⟨b1, h1⟩ := Option.isSome_iff_exists.1 h1
    obtain ⟨b2, h2⟩ := Option.isSome_iff_exists.1 h2
    by_cases hn : n = 60002
    · subst hn
      have : bm = q := hq
      subst this
      obtain ⟨m0, c0, p1, p2, _⟩ := back h2 (Ne.symm hnm)
      rw [p2]
      exact fun hf => sm.2 ⟨m0, c0, p1, hf⟩
    · obtain ⟨n0, b0, q1, q2, q4⟩ := back h1 hn
      rw [q2] at hq
      by_cases hm' : m = 60002
      · subst hm'
        intro hf
        have : bm = q := hf
        subst this
        exact sm.2 ⟨n0, b0, q1, hq⟩
      · obtain ⟨m0, c0, p1, p2, p4⟩ := back h2 hm'
        rw [p2]
        refine M.sep n0 m0 ?_ (by rw [q1]; rfl) (by rw [p1]; rfl) q hq
        rcases lk4 h1 with ⟨rfl, _⟩ | ⟨rfl, _⟩ | ⟨rfl, _⟩ | ⟨rfl, _⟩ <;> rcases lk4 h2 with ⟨rfl, _⟩ | ⟨rfl, _⟩ | ⟨rfl, _⟩ | ⟨rfl, _⟩ <;> simp at hnm hn hm' <;> simp [q4, p4]
end

section
variable {k : Wk} {β β' : Nat → Value} {S S' : Nat → Prop} {h h' : Array Obj} {now : List PV} {sure : List (PV × PV)} {writes : List PV} {done : Int} {cut : Bool} {left : Int} {dark : Bool}
theorem p0_up {L L' : Nat → Option Blk} {v : Value} {c c' : A} (hL : L 60000 = some (.box c)) (hL' : L' 60000 = some (.box c')) (hb : β' 60000 = β 60000) (r : RepA β S h L (.p 60000 []) v) : RepA β' S' h' L' (.p 60000 []) v := by
  obtain ⟨vs, r1, r2⟩ := r
  cases r1 with
  | p e1 e2 e3 =>
    rw [hL] at e1
    cases e1
    have o1 : ∀ c : A, Blk.off (.box c) [] = 0 := fun c => A.off_nil c
    have := RepC.p (β := β') (S := S') (h := h') (L := L') (π := []) hL' (A.ok_nil c') (hb ▸ e3)
    rw [o1] at this
    rw [o1] at r2
    exact ⟨_, this, r2⟩
theorem RlF.turn0 {e e' : Nat → A} {L L' : Nat → Option Blk} {a : Act} {w : World} (R : RlF k β S e L a w) (M : MS β' S w.heap k.w0.heap.size k.F L') (he : ∀ t, RepA β' S w.heap L' (e' t) (a.tmps.getD t undef)) (hb : ∀ t, k.nt ≤ t → e' t = .bad) : RlF k β' S e' L' a w :=
  ⟨{ R.rl with mem := M, env := fun t x hx => (by cases hx) }, he, hb⟩
theorem e0_at {L : List (Nat × Blk)} (t : Nat) : St.e ⟨[(0, .p 60000 [])], L⟩ t = if 0 = t then .p 60000 [] else .bad := by
  simp only [St.e, lk_cons]
  by_cases h : 0 = t
  · rw [if_pos h, if_pos h]; rfl
  · rw [if_neg h, if_neg h]; rfl
theorem RepM.none {S : Nat → Prop} {h : Array Obj} : ∀ {kv es}, RepM S h kv es → sureB kv = true → RepM (fun _ => False) #[] kv es
  | _, _, .nil, _ => .nil
  | _, _, .cons (k := k) (v := v) (kv := kv) a b c d r, hs => by
    obtain ⟨n, u, hp⟩ := sureB_at hs (p := (k, v)) (by simp)
    cases hp
    have hr : sureB kv = true := by
      rw [sureB, List.all_cons, Bool.and_eq_true] at hs
      exact hs.2
    exact .cons (by cases a; exact .sc _ _) (by cases b; exact .arr _ _ _) c d (r.none hr)
theorem bk_main (hG : k.G = noG) (hnt : k.nt = 25) (hnp : k.np = 1) (hd : devC now sure writes) {a : Act} {w : World} (hdf : a.defers = []) (R : RlF k β S (St.e ⟨[(0, .p 60000 [])], bk_LF now sure writes done cut left dark⟩) (lk (bk_LF now sure writes done cut left dark)) a w)
    {Q : Exit → Act → World → Prop} (hq : ¬ LetsOut Q) (hQ : ∀ β S a w, RlF k β S (St.e ⟨[(0, .p 60000 [])], bk_LF (backV now sure) sure writes done cut left dark⟩) (lk (bk_LF (backV now sure) sure writes done cut left dark)) a w → bk_c4.wpIn (FR none) 0 Try.prog Q a w) :
    bk_b.wpIn (FR none) 0 Try.prog Q a w := by
  have hnp' : k.np ≤ 1 := by omega
  have hsub : ∀ {β S L a w}, (subK k β S L a w 1).G = bk_C.G ∧ (subK k β S L a w 1).nt = bk_C.nt ∧ (subK k β S L a w 1).np = bk_C.np := fun {_ _ _ _ _} => ⟨hG, hnt, rfl⟩
  rw [bk_code]
  refine wpIn_seq (wpIn_seq (wpIn_region ?_))
  generalize hQ2 : (Exit.then (Code.wpIn (FR none) 0 Try.prog bk_c4 Q) Q : Exit → Act → World → Prop) = Q2
  have hq2 : ¬ LetsOut Q2 := by
    subst hQ2
    exact fun ⟨a, w, h⟩ => hq ⟨a, w, h⟩
  generalize hQ1 : (Exit.then (Code.wpIn (FR none) 0 Try.prog (.block 0 (.loop bk_l)) Q2) Q2 : Exit → Act → World → Prop) = Q1
  have hq1 : ¬ LetsOut Q1 := by
    subst hQ1
    exact fun ⟨a, w, h⟩ => hq2 ⟨a, w, h⟩
  rw [show List.range bk_o0.size = [0, 1, 2, 3, 4] from by rw [bk_size0]; rfl]
  have R0 := R.enter 1
  rw [act_defers hdf] at R0
  refine pre_run (C := bk_C) (mkC_ok bk_tok) hsub.1 hsub.2 hq1 bk_nd0 (os := [bkAt bk_o0 0, bkAt bk_o0 1, bkAt bk_o0 2, bkAt bk_o0 3]) (i := 0) (rest := [4]) (K := fun s => s = ⟨[(7, .o 60002), (6, .p 60000 [.f 1]), (5, .p 60000 []), (4, .p 60000 []), (0, .p 60000 [])], bk_LF now sure writes done cut left dark⟩) (fun j hj => ?_) ?_ rfl (fun st' hst β1 S1 a1 w1 R' => ?_) R0
  · match j, hj with
    | 0, _ => exact bkAt_eq (i := 0) (by rw [bk_size0]; decide)
    | 1, _ => exact bkAt_eq (i := 1) (by rw [bk_size0]; decide)
    | 2, _ => exact bkAt_eq (i := 2) (by rw [bk_size0]; decide)
    | 3, _ => exact bkAt_eq (i := 3) (by rw [bk_size0]; decide)
  · rw [bk_E0]
  subst hst
  have hdf1 : a1.defers = [] := R'.rl.nd rfl
  have J := R.join hnp' R'
  have ea : { a1 with defers := a.defers } = a1 := by rw [hdf]; exact act_defers hdf1
  rw [ea] at J
  obtain ⟨bm, es, clock, b1, b2, b3, b4, b5, b6, b7⟩ := bk_open J.rl.mem
  obtain ⟨d1, d2, d3⟩ := devB_iff.1 hd.b
  have hes := b3.none d2
  have ev7 : a1.eval (.tmp 7) = .map (some bm) := by
    obtain ⟨vs, h1, h2⟩ := J.env 7
    have := h1.o_inv
    subst this
    rw [← b1]
    exact h2
  obtain ⟨r1, r2, r3, r4⟩ := bk_r
  refine op_run (bkAt_eq (by rw [bk_size0]; decide)) r2 r3 r4 (run_range_op r1 (by rw [ev7]; exact run_range_map w1 57 3 63 bm es clock bk_map b2)) ?_
  show Q1 .normal _ _
  subst hQ1
  have hbm : bm < w1.heap.size := (Array.getElem?_eq_some_iff.1 b2).1
  have own_lt : ∀ b, Own (bkβ β1) (lk (bk_LM now writes done cut left dark (.map (some bm)))) b → b < w1.heap.size := fun b ⟨n, blk, h1, h2⟩ => (b7.own n blk h1 b h2).2.1
  have J1 : RlF k (bkβ β1) S1 (St.e ⟨[(0, .p 60000 [])], bk_LM now writes done cut left dark (.map (some bm))⟩) (lk (bk_LM now writes done cut left dark (.map (some bm)))) a1 w1 := by
    refine J.turn0 b7 (fun t => ?_) fun t ht => ?_
    · rw [e0_at]
      by_cases h0 : 0 = t
      · subst h0
        rw [if_pos rfl]
        exact p0_up (β := β1) (S := S1) (h := w1.heap) (L := lk (bk_LF now sure writes done cut left dark)) rfl rfl rfl (J.env 0)
      · rw [if_neg h0]; exact RepA.bad _
    · rw [e0_at, if_neg (by omega)]
  generalize hw2 : w1.alloc (.mapIter (some bm) clock #[] clock) = w2
  have old : ∀ b, b < w1.heap.size → w2.heap[b]? = w1.heap[b]? := fun b hb => by rw [← hw2]; exact heap_alloc_old w1 _ hb
  have hsz : w1.heap.size ≤ w2.heap.size := by
    rw [← hw2]
    show w1.heap.size ≤ (w1.heap.push _).size
    simp
  have J2 := J1.turn (w' := w2) (fun b hb => old b (J1.rl.mem.bound b hb)) (fun b hb => old b (own_lt b hb)) hsz (fun b hb _ => old b (Nat.lt_of_lt_of_le hb J1.rl.size)) (by rw [← hw2]; rfl) (by rw [← hw2]; rfl) (by rw [← hw2]; rfl)
  have J3 := J2.put1 (d := 8) (x := .pv (.raw (bk_itv w1.heap.size))) (v := bk_itv w1.heap.size) (e' := St.e ⟨bk_E8 w1.heap.size, bk_LM now writes done cut left dark (.map (some bm))⟩) (by omega) (by omega) (RepA.pv1 (.raw rfl rfl) rfl) fun t => by
    simp only [St.e, lk_cons]
    by_cases h8 : 8 = t
    · subst h8; exact .inl ⟨rfl, rfl⟩
    · by_cases h0 : 0 = t
      · subst h0; exact .inr (.inl ⟨h8, rfl⟩)
      · rw [if_neg h8, if_neg h0]; exact .inr (.inr rfl)
  have H : BkH k bm w1.heap.size es clock writes done cut left dark (bk_E8 w1.heap.size) (bkβ β1) S1 #[] now (a1.put (some 8) (bk_itv w1.heap.size)) w2 := {
    R := J3
    hm := (old bm hbm).trans b2
    hr := by rw [← hw2]; exact heap_alloc_new w1 _
    sm := b5
    sr := ⟨fun hs => absurd (J1.rl.mem.bound _ hs) (Nat.lt_irrefl _), fun ho => absurd (own_lt _ ho) (Nat.lt_irrefl _)⟩
    fm := b6
    fr := J1.rl.size
    df := hdf1 }
  refine wpIn_block (wpIn_loop_rounds ((leftOf es #[]).size + 1) ?_)
  refine bk_loop (Q := Exit.inBlock 0 Q2) (r := w1.heap.size) hG hnt hnp hd hes b4 (fun ⟨a, w, h⟩ => hq2 ⟨a, w, h⟩) (fun seen now2 β2 S2 a2 w3 h0 hl H' => ?_) _ (Nat.lt_succ_self _) ⟨rfl, fun _ _ => .inr rfl, fun i hi ⟨e, _, he, _⟩ => by simp at he⟩ H
  show Q2 .normal a2 w3
  subst hQ2
  show bk_c4.wpIn (FR none) 0 Try.prog Q a2 w3
  have hnow : now2 = backV now sure := hl.all hd.k fun p hp => by
    obtain ⟨e, cs, vs, m1, m2, m3, m4, m5⟩ := hes.at2 hp
    obtain ⟨n, hn, n0, n1⟩ := hd.k.lt p hp
    refine ⟨e, m1, ?_, ?_⟩
    · cases hc : seen.contains e.born with
      | true => rfl
      | false =>
        have hmem : e ∈ leftOf es seen := Array.mem_filter.2 ⟨Array.mem_toList_iff.1 m1, by rw [hc]; rfl⟩
        have := Array.size_pos_of_mem hmem
        omega
    · rw [m4]
      rw [hn] at m2
      rw [hn]
      cases m2
      show EK.i.enc n = EK.i.enc ((n.toNat : Nat) : Int)
      rw [Int.toNat_of_nonneg n0]
  subst hnow
  refine hQ _ _ _ _ (H'.R.turn0 (bk_close H'.R.rl.mem H'.hm (hes.mono (fun _ h => h.elim) fun _ h => h.elim) b4 H'.sm H'.fm) (fun t => ?_) fun t ht => ?_)
  · rw [e0_at]
    by_cases h0 : 0 = t
    · subst h0
      rw [if_pos rfl]
      exact p0_up (β := β2) (S := S2) (h := w3.heap) (L := lk (bk_LM (backV now sure) writes done cut left dark (.map (some bm)))) rfl rfl rfl (H'.R.env 0)
    · rw [if_neg h0]; exact RepA.bad _
  · rw [e0_at, if_neg (by omega)]
end
noncomputable abbrev dev_back_rs : List ResultVar := Try.f30.results.toList
def dev_back_hs : List Nat := [0]
def dev_back_enc (r : Int × Bool × Int × Bool × List PV × (List (PV × PV)) × List PV) : CallOut := ⟨.tup [], [(60000, .box (.st [.o 60001, .o 60002, .o 60003, .pv (.sc .i r.1), .pv (.sc .b r.2.1), .pv (.sc .i r.2.2.1), .pv (.sc .b r.2.2.2.1)])), (60001, .row (.p 128 r.2.2.2.2.1) false), (60002, .map r.2.2.2.2.2.1), (60003, .row (.p 129 r.2.2.2.2.2.2) false)], true, [(0, .p 60000 [])]⟩
theorem bk_E4 (now : List PV) (sure : List (PV × PV)) (writes : List PV) (done : Int) (cut : Bool) (left : Int) (dark : Bool) (Q : CallOut → Prop) : evalP bk_C bk_lv 0 bk_c4 ⟨[(0, .p 60000 [])], bk_LF now sure writes done cut left dark⟩ (fnK bk_C dev_back_rs dev_back_hs Q) =
    ((((PV.flats writes = true) ∧ (((PV.flats (List.map (fun (z8 : PV × PV) => (Prod.fst z8)) ([] : List (PV × PV)))) && (PV.flats (List.map (fun (z8 : PV × PV) => (Prod.snd z8)) ([] : List (PV × PV))))) = true)) ∧ (PV.flats now = true)) ∧ Q (dev_back_enc (done, cut, left, dark, now, [], writes))) := by kernel_rfl
def dev_back_c : Ans
  | [.p 60000 []], [(60000, .box (.st [.o 60001, .o 60002, .o 60003, .pv (.sc .i done), .pv (.sc .b cut), .pv (.sc .i left), .pv (.sc .b dark)])), (60001, .row (.p 128 now) false), (60002, .map sure), (60003, .row (.p 129 writes) false)] => some (some (devC now sure writes), dev_back_enc (done, cut, left, dark, backV now sure, [], writes))
  | _, _ => none
theorem dev_back_ok : FnOK Try.prog noG 30 (unW dev_back_c) := by
  refine FnOK.of_W (C := bk_C) (fn := Try.f30) (body := bk_b) (by kernel_rfl) (by kernel_rfl) (by kernel_rfl) (lv := bk_lv) (hs := dev_back_hs) fun args mem out ho => ?_
  obtain ⟨p, h, hp⟩ := unW_some ho
  unfold dev_back_c at h
  split at h
  · rename_i done cut left dark now sure writes
    cases h
    have hd : devC now sure writes := hp
    obtain ⟨d1, d2, d3⟩ := devB_iff.1 hd.b
    refine ⟨⟨by decide, by decide, fun i hi => ?_⟩, fun k β S a w hG hnt hnp hnd hdf R => ?_⟩
    · have : i = 0 := by simpa [dev_back_hs] using hi
      subst this
      decide
    · have hnt : k.nt = 25 := hnt
      have hnp : k.np = 1 := hnp
      refine (wpIn_wide (n := 0)).1 (bk_main hG hnt hnp hd hdf R ?_ fun β' S' a' w' R' => ?_)
      · rintro ⟨a, w, e, _, _, _, he, _⟩
        cases e <;> cases he
      · refine evalP_soundIn (C := bk_C) (mkC_ok bk_tok) bk_mixed hG ⟨hnt, hnp⟩ (lv := bk_lv) bk_c4 0 bk_p4 ?_ (K := fnK bk_C dev_back_rs dev_back_hs _) ?_ (fun ex st' hk β2 S2 a2 w2 R2 => ⟨ex, st', β2, S2, rfl, hk, R2⟩) R'
        · rintro ⟨a, w, e, _, _, _, he, _⟩
          cases e <;> cases he
        · rw [bk_E4]
          exact ⟨⟨⟨wrB_flats d3, rfl⟩, secB_flats (backV_secB d1 d2)⟩, rfl⟩
  · cases h

end
end Go.Proofs.Ytgecpcajmhgboaa.M

namespace Go.Proofs.Ytgecpcajmhgboaa.M
open Go
noncomputable section
set_option maxRecDepth 100000
set_option maxHeartbeats 0
noncomputable def dev_lose_T : Tbl := [(30, [true], dev_back_c)]
noncomputable def dev_lose_C : CfgW := mkC Try.prog noG dev_lose_T 7 1 false
def dev_lose_lv : Nat → List Nat := fun i => []
noncomputable abbrev dev_lose_b : Code := Try.f28.body.getD .skip
noncomputable abbrev dev_lose_r : List ResultVar := Try.f28.results.toList
def dev_lose_hs : List Nat := [0]

def dev_lose_enc (r : Int × Bool × Int × Bool × List PV × (List (PV × PV)) × List PV) : CallOut := ⟨.tup [], [(60000, .box (.st [.o 60001, .o 60002, .o 60003, .pv (.sc .i r.1), .pv (.sc .b r.2.1), .pv (.sc .i r.2.2.1), .pv (.sc .b r.2.2.2.1)])), (60001, .row (.p 128 r.2.2.2.2.1) false), (60002, .map r.2.2.2.2.2.1), (60003, .row (.p 129 r.2.2.2.2.2.2) false)], true, [(0, .p 60000 [])]⟩
theorem dev_lose_e (now : List PV) (sure : List (PV × PV)) (writes : List PV) (done : Int) (cut : Bool) (left : Int) (dark : Bool) (Q : CallOut → Prop) : evalFnP dev_lose_C dev_lose_lv dev_lose_r dev_lose_hs dev_lose_b [.p 60000 []] [(60000, .box (.st [.o 60001, .o 60002, .o 60003, .pv (.sc .i done), .pv (.sc .b cut), .pv (.sc .i left), .pv (.sc .b dark)])), (60001, .row (.p 128 now) false), (60002, .map sure), (60003, .row (.p 129 writes) false)] Q =
    ((devC now sure writes) ∧ (((((PV.flats writes) = true) ∧ (((PV.flats (List.map (fun (z8 : PV × PV) => (Prod.fst z8)) ([] : List (PV × PV)))) && (PV.flats (List.map (fun (z8 : PV × PV) => (Prod.snd z8)) ([] : List (PV × PV))))) = true)) ∧ ((PV.flats (backV now sure)) = true)) ∧ (Q (dev_lose_enc (done, cut, left, true, (backV now sure), ([] : List (PV × PV)), writes))))) := by kernel_rfl
theorem dev_lose_w (now : List PV) (sure : List (PV × PV)) (writes : List PV) (done : Int) (cut : Bool) (left : Int) (dark : Bool) {r} {Q : CallOut → Prop} (h : dev_lose now sure writes done cut left dark = some r) (hQ : Q (dev_lose_enc r)) : evalFnP dev_lose_C dev_lose_lv dev_lose_r dev_lose_hs dev_lose_b [.p 60000 []] [(60000, .box (.st [.o 60001, .o 60002, .o 60003, .pv (.sc .i done), .pv (.sc .b cut), .pv (.sc .i left), .pv (.sc .b dark)])), (60001, .row (.p 128 now) false), (60002, .map sure), (60003, .row (.p 129 writes) false)] Q :=
  Eq.mpr (dev_lose_e now sure writes done cut left dark Q) (have h := (dev_lose_q now sure writes done cut left dark).symm.trans h; ite_ok h fun hc0 h => ite_ok h fun hc1 h => ret_ok (Q := Q) (e := dev_lose_enc) h hQ)
def dev_lose_c : Ans
  | [.p 60000 []], [(60000, .box (.st [.o 60001, .o 60002, .o 60003, .pv (.sc .i done), .pv (.sc .b cut), .pv (.sc .i left), .pv (.sc .b dark)])), (60001, .row (.p 128 now) false), (60002, .map sure), (60003, .row (.p 129 writes) false)] => some (some (devC now sure writes), dev_lose_enc ((done, cut, left, true, backV now sure, [], writes)))
  | _, _ => none
theorem dev_lose_tok : TblOK Try.prog noG dev_lose_T := .cons ⟨by kernel_rfl, dev_back_ok⟩ (.nil)
theorem dev_lose_ok : FnOK Try.prog noG 28 (unW dev_lose_c) := by
  refine FnOK.ofC (T := dev_lose_T) (nt := 7) (np := 1) (mv := []) (nf := false) (hs := dev_lose_hs) (fn := Try.f28) (body := dev_lose_b) dev_lose_tok (by kernel_rfl) (by kernel_rfl) (by kernel_rfl) (by kernel_rfl) (c := dev_lose_c) (lv := dev_lose_lv) ?_
  intro xs mem p out h hp
  unfold dev_lose_c at h
  split at h
  · cases h
    exact dev_lose_w _ _ _ _ _ _ _ (dev_lose_spec _ _ _ _ _ _ _ hp) rfl
  · cases h
end
end Go.Proofs.Ytgecpcajmhgboaa.M

namespace Go.Proofs.Ytgecpcajmhgboaa.M
open Go
noncomputable section
set_option maxRecDepth 100000
set_option maxHeartbeats 0
noncomputable def dev_set_T : Tbl := []
noncomputable def dev_set_C : CfgW := mkC Try.prog noG dev_set_T 38 1 false
def dev_set_lv : Nat → List Nat := fun i => []
noncomputable abbrev dev_set_b : Code := Try.f29.body.getD .skip
noncomputable abbrev dev_set_r : List ResultVar := Try.f29.results.toList
def dev_set_hs : List Nat := [0]

def dev_set_enc (r : Int × Bool × Int × Bool × List PV × (List (PV × PV)) × List PV) : CallOut := ⟨.tup [], [(60000, .box (.st [.o 60001, .o 60002, .o 60003, .pv (.sc .i r.1), .pv (.sc .b r.2.1), .pv (.sc .i r.2.2.1), .pv (.sc .b r.2.2.2.1)])), (60001, .row (.p 128 r.2.2.2.2.1) false), (60002, .map r.2.2.2.2.2.1), (60003, .row (.p 129 r.2.2.2.2.2.2) false)], true, [(0, .p 60000 [])]⟩
theorem dev_set_e (now : List PV) (sure : List (PV × PV)) (writes : List PV) (done : Int) (cut : Bool) (left : Int) (dark : Bool) (n : Int) (b : Vector UInt8 128) (Q : CallOut → Prop) : evalFnP dev_set_C dev_set_lv dev_set_r dev_set_hs dev_set_b [.p 60000 [], .pv (.sc .i n), .pv (.arr .u8 128 b)] [(60000, .box (.st [.o 60001, .o 60002, .o 60003, .pv (.sc .i done), .pv (.sc .b cut), .pv (.sc .i left), .pv (.sc .b dark)])), (60001, .row (.p 128 now) false), (60002, .map sure), (60003, .row (.p 129 writes) false)] Q =
    ((((allSc EK.i sure) = true) ∧ (((List.all sure (fun (z10 : PV × PV) => ((PV.isAgg (Prod.snd z10)) == (PV.isAgg (PV.arr EK.u8 (128 : Nat) (Vector.replicate (128 : Nat) (0 : UInt8))))))) = true) ∧ ((TY.chk (TY.arr EK.u8 (128 : Nat)) (Option.getD (mget sure (PV.sc EK.i n)) (PV.arr EK.u8 (128 : Nat) (Vector.replicate (128 : Nat) (0 : UInt8))))) = true))) ∧ (condP (!(Option.isSome (mget sure (PV.sc EK.i n)))) ((((0 : Int) ≤ n) ∧ (n < (((List.length now) : Nat) : Int))) ∧ (((TY.chk (TY.arr EK.u8 (128 : Nat)) (RC.get (RC.p (128 : Nat) now) ([(PE.i (Int.toNat n))] : List PE))) = true) ∧ (((allSc EK.i sure) = true) ∧ ((((0 : Int) ≤ n) ∧ (n < (((List.length now) : Nat) : Int))) ∧ (((PV.size (List.getD now (Int.toNat n) PV.nilp)) = (128 : Nat)) ∧ (((((PV.flats writes) = true) ∧ (((PV.flats (List.map (fun (z10 : PV × PV) => (Prod.fst z10)) (mset sure (PV.sc EK.i n) (TY.eta (TY.arr EK.u8 (128 : Nat)) (RC.get (RC.p (128 : Nat) now) ([(PE.i (Int.toNat n))] : List PE)))))) && (PV.flats (List.map (fun (z10 : PV × PV) => (Prod.snd z10)) (mset sure (PV.sc EK.i n) (TY.eta (TY.arr EK.u8 (128 : Nat)) (RC.get (RC.p (128 : Nat) now) ([(PE.i (Int.toNat n))] : List PE))))))) = true)) ∧ ((PV.flats (List.set now (Int.toNat n) (PV.arr EK.u8 (128 : Nat) b))) = true)) ∧ (Q (dev_set_enc (done, cut, left, dark, (List.set now (Int.toNat n) (PV.arr EK.u8 (128 : Nat) b)), (mset sure (PV.sc EK.i n) (TY.eta (TY.arr EK.u8 (128 : Nat)) (RC.get (RC.p (128 : Nat) now) ([(PE.i (Int.toNat n))] : List PE)))), writes))))))))) ((((0 : Int) ≤ n) ∧ (n < (((List.length now) : Nat) : Int))) ∧ (((PV.size (List.getD now (Int.toNat n) PV.nilp)) = (128 : Nat)) ∧ (((((PV.flats writes) = true) ∧ (((PV.flats (List.map (fun (z10 : PV × PV) => (Prod.fst z10)) sure)) && (PV.flats (List.map (fun (z10 : PV × PV) => (Prod.snd z10)) sure))) = true)) ∧ ((PV.flats (List.set now (Int.toNat n) (PV.arr EK.u8 (128 : Nat) b))) = true)) ∧ (Q (dev_set_enc (done, cut, left, dark, (List.set now (Int.toNat n) (PV.arr EK.u8 (128 : Nat) b)), sure, writes)))))))) := by kernel_rfl
theorem dev_set_w (now : List PV) (sure : List (PV × PV)) (writes : List PV) (done : Int) (cut : Bool) (left : Int) (dark : Bool) (n : Int) (b : Vector UInt8 128) {r} {Q : CallOut → Prop} (h : dev_set now sure writes done cut left dark n b = some r) (hQ : Q (dev_set_enc r)) : evalFnP dev_set_C dev_set_lv dev_set_r dev_set_hs dev_set_b [.p 60000 [], .pv (.sc .i n), .pv (.arr .u8 128 b)] [(60000, .box (.st [.o 60001, .o 60002, .o 60003, .pv (.sc .i done), .pv (.sc .b cut), .pv (.sc .i left), .pv (.sc .b dark)])), (60001, .row (.p 128 now) false), (60002, .map sure), (60003, .row (.p 129 writes) false)] Q :=
  Eq.mpr (dev_set_e now sure writes done cut left dark n b Q) (have h := (dev_set_q now sure writes done cut left dark n b).symm.trans h; ite_ok h fun hc0 h => cond_ok h (fun h => ite_ok h fun hc1 h => ite_ok h fun hc2 h => ite_ok h fun hc3 h => ⟨hc1, ite_ok h fun hc4 h => ite_ok h fun hc5 h => ret_ok (Q := Q) (e := dev_set_enc) h hQ⟩) (fun h => ite_ok h fun hc1 h => ite_ok h fun hc2 h => ite_ok h fun hc3 h => ret_ok (Q := Q) (e := dev_set_enc) h hQ))
def dev_set_c : Ans
  | [.p 60000 [], .pv (.sc .i n), .pv (.arr .u8 128 b)], [(60000, .box (.st [.o 60001, .o 60002, .o 60003, .pv (.sc .i done), .pv (.sc .b cut), .pv (.sc .i left), .pv (.sc .b dark)])), (60001, .row (.p 128 now) false), (60002, .map sure), (60003, .row (.p 129 writes) false)] => some (some (devB now sure writes = true ∧ 0 ≤ n ∧ n < now.length), dev_set_enc ((done, cut, left, dark, now.set n.toNat (.arr .u8 128 b), sureSet sure n (now.getD n.toNat .nilp), writes)))
  | _, _ => none
theorem dev_set_tok : TblOK Try.prog noG dev_set_T := .nil
theorem dev_set_ok : FnOK Try.prog noG 29 (unW dev_set_c) := by
  refine FnOK.ofC (T := dev_set_T) (nt := 38) (np := 1) (mv := []) (nf := false) (hs := dev_set_hs) (fn := Try.f29) (body := dev_set_b) dev_set_tok (by kernel_rfl) (by kernel_rfl) (by kernel_rfl) (by kernel_rfl) (c := dev_set_c) (lv := dev_set_lv) ?_
  intro xs mem p out h hp
  unfold dev_set_c at h
  split at h
  · cases h
    exact dev_set_w _ _ _ _ _ _ _ _ _ (dev_set_spec _ _ _ _ _ _ _ _ _ hp) rfl
  · cases h
end
end Go.Proofs.Ytgecpcajmhgboaa.M

namespace Go.Proofs.Ytgecpcajmhgboaa.M
open Go
noncomputable section
set_option maxRecDepth 100000
set_option maxHeartbeats 0
noncomputable def dev_Write_n_T : Tbl := [(26, [], dev_off_n_c), (27, [true, false], dev_state_c), (28, [true], dev_lose_c), (29, [true, false, false], dev_set_c)]
noncomputable def dev_Write_n_C : CfgW := mkC Try.prog noG dev_Write_n_T 69 0 false
def dev_Write_n_lv : Nat → List Nat := fun i => []
noncomputable abbrev dev_Write_n_b : Code := Try.f11.body.getD .skip
noncomputable abbrev dev_Write_n_r : List ResultVar := Try.f11.results.toList
def dev_Write_n_hs : List Nat := []

def dev_Write_n_enc (r : Int) : CallOut := ⟨.pv (.sc .i r), [], true, []⟩
theorem dev_Write_n_e (n : Int) (b : List UInt8) (Q : CallOut → Prop) : evalFnP dev_Write_n_C dev_Write_n_lv dev_Write_n_r dev_Write_n_hs dev_Write_n_b [.pv .nilp, .pv (.sc .i n), .pv (.sl .u8 b)] [] Q =
    (Q (dev_Write_n_enc (1 : Int))) := by kernel_rfl
theorem dev_Write_n_w (n : Int) (b : List UInt8) {Q : CallOut → Prop} (h : Q (dev_Write_n_enc (dev_Write_n n b))) : evalFnP dev_Write_n_C dev_Write_n_lv dev_Write_n_r dev_Write_n_hs dev_Write_n_b [.pv .nilp, .pv (.sc .i n), .pv (.sl .u8 b)] [] Q :=
  Eq.mpr (dev_Write_n_e n b Q) (have h := Eq.mp (congrArg (fun r => Q (dev_Write_n_enc r)) (dev_Write_n_q n b)) h; h)
def dev_Write_n_c : Ans
  | [.pv .nilp, .pv (.sc .i n), .pv (.sl .u8 b)], [] => some (none, dev_Write_n_enc (dev_Write_n n b))
  | _, _ => none
theorem dev_Write_n_tok : TblOK Try.prog noG dev_Write_n_T := .cons ⟨by kernel_rfl, dev_off_n_ok⟩ (.cons ⟨by kernel_rfl, dev_state_ok⟩ (.cons ⟨by kernel_rfl, dev_lose_ok⟩ (.cons ⟨by kernel_rfl, dev_set_ok⟩ (.nil))))
theorem dev_Write_n_ok : FnOK Try.prog noG 11 (unW dev_Write_n_c) := by
  refine FnOK.ofC (T := dev_Write_n_T) (nt := 69) (np := 0) (mv := []) (nf := false) (hs := dev_Write_n_hs) (fn := Try.f11) (body := dev_Write_n_b) dev_Write_n_tok (by kernel_rfl) (by kernel_rfl) (by kernel_rfl) (by kernel_rfl) (c := dev_Write_n_c) (lv := dev_Write_n_lv) ?_
  intro xs mem p out h hp
  unfold dev_Write_n_c at h
  split at h
  · cases h
    exact dev_Write_n_w _ _ rfl
  · cases h
end
end Go.Proofs.Ytgecpcajmhgboaa.M

namespace Go.Proofs.Ytgecpcajmhgboaa.M
open Go
noncomputable section
set_option maxRecDepth 100000
set_option maxHeartbeats 0
noncomputable def dev_Write_z_T : Tbl := [(26, [], dev_off_z_c), (27, [true, false], dev_state_c), (28, [true], dev_lose_c), (29, [true, false, false], dev_set_c)]
noncomputable def dev_Write_z_C : CfgW := mkC Try.prog noG dev_Write_z_T 69 0 false
def dev_Write_z_lv : Nat → List Nat := fun i => []
noncomputable abbrev dev_Write_z_b : Code := Try.f11.body.getD .skip
noncomputable abbrev dev_Write_z_r : List ResultVar := Try.f11.results.toList
def dev_Write_z_hs : List Nat := []

def dev_Write_z_enc (r : Int) : CallOut := ⟨.pv (.sc .i r), [], true, []⟩
theorem dev_Write_z_e (n : Int) (b : List UInt8) (Q : CallOut → Prop) : evalFnP dev_Write_z_C dev_Write_z_lv dev_Write_z_r dev_Write_z_hs dev_Write_z_b [.rp (.st [.sp 128 [], .nilm, .sp 129 [], .sc .i 0, .sc .b false, .sc .i 0, .sc .b false]), .pv (.sc .i n), .pv (.sl .u8 b)] [] Q =
    (Q (dev_Write_z_enc (1 : Int))) := by kernel_rfl
theorem dev_Write_z_w (n : Int) (b : List UInt8) {Q : CallOut → Prop} (h : Q (dev_Write_z_enc (dev_Write_z n b))) : evalFnP dev_Write_z_C dev_Write_z_lv dev_Write_z_r dev_Write_z_hs dev_Write_z_b [.rp (.st [.sp 128 [], .nilm, .sp 129 [], .sc .i 0, .sc .b false, .sc .i 0, .sc .b false]), .pv (.sc .i n), .pv (.sl .u8 b)] [] Q :=
  Eq.mpr (dev_Write_z_e n b Q) (have h := Eq.mp (congrArg (fun r => Q (dev_Write_z_enc r)) (dev_Write_z_q n b)) h; h)
def dev_Write_z_c : Ans
  | [.rp (.st [.sp 128 [], .nilm, .sp 129 [], .sc .i 0, .sc .b false, .sc .i 0, .sc .b false]), .pv (.sc .i n), .pv (.sl .u8 b)], [] => some (none, dev_Write_z_enc (dev_Write_z n b))
  | _, _ => none
theorem dev_Write_z_tok : TblOK Try.prog noG dev_Write_z_T := .cons ⟨by kernel_rfl, dev_off_z_ok⟩ (.cons ⟨by kernel_rfl, dev_state_ok⟩ (.cons ⟨by kernel_rfl, dev_lose_ok⟩ (.cons ⟨by kernel_rfl, dev_set_ok⟩ (.nil))))
theorem dev_Write_z_ok : FnOK Try.prog noG 11 (unW dev_Write_z_c) := by
  refine FnOK.ofC (T := dev_Write_z_T) (nt := 69) (np := 0) (mv := []) (nf := false) (hs := dev_Write_z_hs) (fn := Try.f11) (body := dev_Write_z_b) dev_Write_z_tok (by kernel_rfl) (by kernel_rfl) (by kernel_rfl) (by kernel_rfl) (c := dev_Write_z_c) (lv := dev_Write_z_lv) ?_
  intro xs mem p out h hp
  unfold dev_Write_z_c at h
  split at h
  · cases h
    exact dev_Write_z_w _ _ rfl
  · cases h
end
end Go.Proofs.Ytgecpcajmhgboaa.M

namespace Go.Proofs.Ytgecpcajmhgboaa.M
open Go
noncomputable section
set_option maxRecDepth 100000
set_option maxHeartbeats 0
noncomputable def dev_Sync_n_T : Tbl := [(26, [], dev_off_n_c)]
noncomputable def dev_Sync_n_C : CfgW := mkC Try.prog noG dev_Sync_n_T 18 0 false
def dev_Sync_n_lv : Nat → List Nat := fun i => []
noncomputable abbrev dev_Sync_n_b : Code := Try.f20.body.getD .skip
noncomputable abbrev dev_Sync_n_r : List ResultVar := Try.f20.results.toList
def dev_Sync_n_hs : List Nat := []

def dev_Sync_n_enc (r : Int) : CallOut := ⟨.pv (.sc .i r), [], true, []⟩
theorem dev_Sync_n_e  (Q : CallOut → Prop) : evalFnP dev_Sync_n_C dev_Sync_n_lv dev_Sync_n_r dev_Sync_n_hs dev_Sync_n_b [.pv .nilp] [] Q =
    (Q (dev_Sync_n_enc (1 : Int))) := by kernel_rfl
theorem dev_Sync_n_w  {Q : CallOut → Prop} (h : Q (dev_Sync_n_enc (dev_Sync_n ))) : evalFnP dev_Sync_n_C dev_Sync_n_lv dev_Sync_n_r dev_Sync_n_hs dev_Sync_n_b [.pv .nilp] [] Q :=
  Eq.mpr (dev_Sync_n_e  Q) (have h := Eq.mp (congrArg (fun r => Q (dev_Sync_n_enc r)) (dev_Sync_n_q )) h; h)
def dev_Sync_n_c : Ans
  | [.pv .nilp], [] => some (none, dev_Sync_n_enc (dev_Sync_n ))
  | _, _ => none
theorem dev_Sync_n_tok : TblOK Try.prog noG dev_Sync_n_T := .cons ⟨by kernel_rfl, dev_off_n_ok⟩ (.nil)
theorem dev_Sync_n_ok : FnOK Try.prog noG 20 (unW dev_Sync_n_c) := by
  refine FnOK.ofC (T := dev_Sync_n_T) (nt := 18) (np := 0) (mv := []) (nf := false) (hs := dev_Sync_n_hs) (fn := Try.f20) (body := dev_Sync_n_b) dev_Sync_n_tok (by kernel_rfl) (by kernel_rfl) (by kernel_rfl) (by kernel_rfl) (c := dev_Sync_n_c) (lv := dev_Sync_n_lv) ?_
  intro xs mem p out h hp
  unfold dev_Sync_n_c at h
  split at h
  · cases h
    exact dev_Sync_n_w  rfl
  · cases h
end
end Go.Proofs.Ytgecpcajmhgboaa.M

namespace Go.Proofs.Ytgecpcajmhgboaa.M
open Go
noncomputable section
set_option maxRecDepth 100000
set_option maxHeartbeats 0
noncomputable def dev_Sync_z_T : Tbl := [(26, [], dev_off_z_c)]
noncomputable def dev_Sync_z_C : CfgW := mkC Try.prog noG dev_Sync_z_T 18 0 false
def dev_Sync_z_lv : Nat → List Nat := fun i => []
noncomputable abbrev dev_Sync_z_b : Code := Try.f20.body.getD .skip
noncomputable abbrev dev_Sync_z_r : List ResultVar := Try.f20.results.toList
def dev_Sync_z_hs : List Nat := []

def dev_Sync_z_enc (r : Int) : CallOut := ⟨.pv (.sc .i r), [], true, []⟩
theorem dev_Sync_z_e  (Q : CallOut → Prop) : evalFnP dev_Sync_z_C dev_Sync_z_lv dev_Sync_z_r dev_Sync_z_hs dev_Sync_z_b [.rp (.st [.sp 128 [], .nilm, .sp 129 [], .sc .i 0, .sc .b false, .sc .i 0, .sc .b false])] [] Q =
    (Q (dev_Sync_z_enc (1 : Int))) := by kernel_rfl
theorem dev_Sync_z_w  {Q : CallOut → Prop} (h : Q (dev_Sync_z_enc (dev_Sync_z ))) : evalFnP dev_Sync_z_C dev_Sync_z_lv dev_Sync_z_r dev_Sync_z_hs dev_Sync_z_b [.rp (.st [.sp 128 [], .nilm, .sp 129 [], .sc .i 0, .sc .b false, .sc .i 0, .sc .b false])] [] Q :=
  Eq.mpr (dev_Sync_z_e  Q) (have h := Eq.mp (congrArg (fun r => Q (dev_Sync_z_enc r)) (dev_Sync_z_q )) h; h)
def dev_Sync_z_c : Ans
  | [.rp (.st [.sp 128 [], .nilm, .sp 129 [], .sc .i 0, .sc .b false, .sc .i 0, .sc .b false])], [] => some (none, dev_Sync_z_enc (dev_Sync_z ))
  | _, _ => none
theorem dev_Sync_z_tok : TblOK Try.prog noG dev_Sync_z_T := .cons ⟨by kernel_rfl, dev_off_z_ok⟩ (.nil)
theorem dev_Sync_z_ok : FnOK Try.prog noG 20 (unW dev_Sync_z_c) := by
  refine FnOK.ofC (T := dev_Sync_z_T) (nt := 18) (np := 0) (mv := []) (nf := false) (hs := dev_Sync_z_hs) (fn := Try.f20) (body := dev_Sync_z_b) dev_Sync_z_tok (by kernel_rfl) (by kernel_rfl) (by kernel_rfl) (by kernel_rfl) (c := dev_Sync_z_c) (lv := dev_Sync_z_lv) ?_
  intro xs mem p out h hp
  unfold dev_Sync_z_c at h
  split at h
  · cases h
    exact dev_Sync_z_w  rfl
  · cases h
end
end Go.Proofs.Ytgecpcajmhgboaa.M

namespace Go.Proofs.Ytgecpcajmhgboaa.M
open Go
noncomputable section
set_option maxRecDepth 100000
set_option maxHeartbeats 0
noncomputable def dev_Cut_n_T : Tbl := [(26, [], dev_off_n_c)]
noncomputable def dev_Cut_n_C : CfgW := mkC Try.prog noG dev_Cut_n_T 23 0 false
def dev_Cut_n_lv : Nat → List Nat := fun i => []
noncomputable abbrev dev_Cut_n_b : Code := Try.f21.body.getD .skip
noncomputable abbrev dev_Cut_n_r : List ResultVar := Try.f21.results.toList
def dev_Cut_n_hs : List Nat := []

def dev_Cut_n_enc (r : Int) : CallOut := ⟨.pv (.sc .i r), [], true, []⟩
theorem dev_Cut_n_e (after : Int) (Q : CallOut → Prop) : evalFnP dev_Cut_n_C dev_Cut_n_lv dev_Cut_n_r dev_Cut_n_hs dev_Cut_n_b [.pv .nilp, .pv (.sc .i after)] [] Q =
    (Q (dev_Cut_n_enc (1 : Int))) := by kernel_rfl
theorem dev_Cut_n_w (after : Int) {Q : CallOut → Prop} (h : Q (dev_Cut_n_enc (dev_Cut_n after))) : evalFnP dev_Cut_n_C dev_Cut_n_lv dev_Cut_n_r dev_Cut_n_hs dev_Cut_n_b [.pv .nilp, .pv (.sc .i after)] [] Q :=
  Eq.mpr (dev_Cut_n_e after Q) (have h := Eq.mp (congrArg (fun r => Q (dev_Cut_n_enc r)) (dev_Cut_n_q after)) h; h)
def dev_Cut_n_c : Ans
  | [.pv .nilp, .pv (.sc .i after)], [] => some (none, dev_Cut_n_enc (dev_Cut_n after))
  | _, _ => none
theorem dev_Cut_n_tok : TblOK Try.prog noG dev_Cut_n_T := .cons ⟨by kernel_rfl, dev_off_n_ok⟩ (.nil)
theorem dev_Cut_n_ok : FnOK Try.prog noG 21 (unW dev_Cut_n_c) := by
  refine FnOK.ofC (T := dev_Cut_n_T) (nt := 23) (np := 0) (mv := []) (nf := false) (hs := dev_Cut_n_hs) (fn := Try.f21) (body := dev_Cut_n_b) dev_Cut_n_tok (by kernel_rfl) (by kernel_rfl) (by kernel_rfl) (by kernel_rfl) (c := dev_Cut_n_c) (lv := dev_Cut_n_lv) ?_
  intro xs mem p out h hp
  unfold dev_Cut_n_c at h
  split at h
  · cases h
    exact dev_Cut_n_w _ rfl
  · cases h
end
end Go.Proofs.Ytgecpcajmhgboaa.M

namespace Go.Proofs.Ytgecpcajmhgboaa.M
open Go
noncomputable section
set_option maxRecDepth 100000
set_option maxHeartbeats 0
noncomputable def dev_Cut_z_T : Tbl := [(26, [], dev_off_z_c)]
noncomputable def dev_Cut_z_C : CfgW := mkC Try.prog noG dev_Cut_z_T 23 0 false
def dev_Cut_z_lv : Nat → List Nat := fun i => []
noncomputable abbrev dev_Cut_z_b : Code := Try.f21.body.getD .skip
noncomputable abbrev dev_Cut_z_r : List ResultVar := Try.f21.results.toList
def dev_Cut_z_hs : List Nat := []

def dev_Cut_z_enc (r : Int) : CallOut := ⟨.pv (.sc .i r), [], true, []⟩
theorem dev_Cut_z_e (after : Int) (Q : CallOut → Prop) : evalFnP dev_Cut_z_C dev_Cut_z_lv dev_Cut_z_r dev_Cut_z_hs dev_Cut_z_b [.rp (.st [.sp 128 [], .nilm, .sp 129 [], .sc .i 0, .sc .b false, .sc .i 0, .sc .b false]), .pv (.sc .i after)] [] Q =
    (Q (dev_Cut_z_enc (1 : Int))) := by kernel_rfl
theorem dev_Cut_z_w (after : Int) {Q : CallOut → Prop} (h : Q (dev_Cut_z_enc (dev_Cut_z after))) : evalFnP dev_Cut_z_C dev_Cut_z_lv dev_Cut_z_r dev_Cut_z_hs dev_Cut_z_b [.rp (.st [.sp 128 [], .nilm, .sp 129 [], .sc .i 0, .sc .b false, .sc .i 0, .sc .b false]), .pv (.sc .i after)] [] Q :=
  Eq.mpr (dev_Cut_z_e after Q) (have h := Eq.mp (congrArg (fun r => Q (dev_Cut_z_enc r)) (dev_Cut_z_q after)) h; h)
def dev_Cut_z_c : Ans
  | [.rp (.st [.sp 128 [], .nilm, .sp 129 [], .sc .i 0, .sc .b false, .sc .i 0, .sc .b false]), .pv (.sc .i after)], [] => some (none, dev_Cut_z_enc (dev_Cut_z after))
  | _, _ => none
theorem dev_Cut_z_tok : TblOK Try.prog noG dev_Cut_z_T := .cons ⟨by kernel_rfl, dev_off_z_ok⟩ (.nil)
theorem dev_Cut_z_ok : FnOK Try.prog noG 21 (unW dev_Cut_z_c) := by
  refine FnOK.ofC (T := dev_Cut_z_T) (nt := 23) (np := 0) (mv := []) (nf := false) (hs := dev_Cut_z_hs) (fn := Try.f21) (body := dev_Cut_z_b) dev_Cut_z_tok (by kernel_rfl) (by kernel_rfl) (by kernel_rfl) (by kernel_rfl) (c := dev_Cut_z_c) (lv := dev_Cut_z_lv) ?_
  intro xs mem p out h hp
  unfold dev_Cut_z_c at h
  split at h
  · cases h
    exact dev_Cut_z_w _ rfl
  · cases h
end
end Go.Proofs.Ytgecpcajmhgboaa.M

namespace Go.Proofs.Ytgecpcajmhgboaa.M
open Go
noncomputable section
set_option maxRecDepth 100000
set_option maxHeartbeats 0
noncomputable def dev_On_n_T : Tbl := [(26, [], dev_off_n_c), (30, [true], dev_back_c)]
noncomputable def dev_On_n_C : CfgW := mkC Try.prog noG dev_On_n_T 72 0 false
def dev_On_n_lv : Nat → List Nat := fun i => bif Nat.beq i 1 then [0, 1, 2, 24, 25, 26] else []
noncomputable abbrev dev_On_n_b : Code := Try.f18.body.getD .skip
noncomputable abbrev dev_On_n_r : List ResultVar := Try.f18.results.toList
def dev_On_n_hs : List Nat := []

def dev_On_n_enc (r : Int) : CallOut := ⟨.pv (.sc .i r), [], true, []⟩
theorem dev_On_n_e (keep : Int) (torn : Int) (Q : CallOut → Prop) : evalFnP dev_On_n_C dev_On_n_lv dev_On_n_r dev_On_n_hs dev_On_n_b [.pv .nilp, .pv (.sc .i keep), .pv (.sc .i torn)] [] Q =
    (Q (dev_On_n_enc (1 : Int))) := by kernel_rfl
theorem dev_On_n_w (keep : Int) (torn : Int) {Q : CallOut → Prop} (h : Q (dev_On_n_enc (dev_On_n keep torn))) : evalFnP dev_On_n_C dev_On_n_lv dev_On_n_r dev_On_n_hs dev_On_n_b [.pv .nilp, .pv (.sc .i keep), .pv (.sc .i torn)] [] Q :=
  Eq.mpr (dev_On_n_e keep torn Q) (have h := Eq.mp (congrArg (fun r => Q (dev_On_n_enc r)) (dev_On_n_q keep torn)) h; h)
def dev_On_n_c : Ans
  | [.pv .nilp, .pv (.sc .i keep), .pv (.sc .i torn)], [] => some (none, dev_On_n_enc (dev_On_n keep torn))
  | _, _ => none
theorem dev_On_n_tok : TblOK Try.prog noG dev_On_n_T := .cons ⟨by kernel_rfl, dev_off_n_ok⟩ (.cons ⟨by kernel_rfl, dev_back_ok⟩ (.nil))
theorem dev_On_n_ok : FnOK Try.prog noG 18 (unW dev_On_n_c) := by
  refine FnOK.ofC (T := dev_On_n_T) (nt := 72) (np := 0) (mv := []) (nf := false) (hs := dev_On_n_hs) (fn := Try.f18) (body := dev_On_n_b) dev_On_n_tok (by kernel_rfl) (by kernel_rfl) (by kernel_rfl) (by kernel_rfl) (c := dev_On_n_c) (lv := dev_On_n_lv) ?_
  intro xs mem p out h hp
  unfold dev_On_n_c at h
  split at h
  · cases h
    exact dev_On_n_w _ _ rfl
  · cases h
end
end Go.Proofs.Ytgecpcajmhgboaa.M

namespace Go.Proofs.Ytgecpcajmhgboaa.M
open Go
noncomputable section
set_option maxRecDepth 100000
set_option maxHeartbeats 0
noncomputable def dev_On_z_T : Tbl := [(26, [], dev_off_z_c), (30, [true], dev_back_c)]
noncomputable def dev_On_z_C : CfgW := mkC Try.prog noG dev_On_z_T 72 0 false
def dev_On_z_lv : Nat → List Nat := fun i => bif Nat.beq i 1 then [0, 1, 2, 24, 25, 26] else []
noncomputable abbrev dev_On_z_b : Code := Try.f18.body.getD .skip
noncomputable abbrev dev_On_z_r : List ResultVar := Try.f18.results.toList
def dev_On_z_hs : List Nat := []

def dev_On_z_enc (r : Int) : CallOut := ⟨.pv (.sc .i r), [], true, []⟩
theorem dev_On_z_e (keep : Int) (torn : Int) (Q : CallOut → Prop) : evalFnP dev_On_z_C dev_On_z_lv dev_On_z_r dev_On_z_hs dev_On_z_b [.rp (.st [.sp 128 [], .nilm, .sp 129 [], .sc .i 0, .sc .b false, .sc .i 0, .sc .b false]), .pv (.sc .i keep), .pv (.sc .i torn)] [] Q =
    (Q (dev_On_z_enc (1 : Int))) := by kernel_rfl
theorem dev_On_z_w (keep : Int) (torn : Int) {Q : CallOut → Prop} (h : Q (dev_On_z_enc (dev_On_z keep torn))) : evalFnP dev_On_z_C dev_On_z_lv dev_On_z_r dev_On_z_hs dev_On_z_b [.rp (.st [.sp 128 [], .nilm, .sp 129 [], .sc .i 0, .sc .b false, .sc .i 0, .sc .b false]), .pv (.sc .i keep), .pv (.sc .i torn)] [] Q :=
  Eq.mpr (dev_On_z_e keep torn Q) (have h := Eq.mp (congrArg (fun r => Q (dev_On_z_enc r)) (dev_On_z_q keep torn)) h; h)
def dev_On_z_c : Ans
  | [.rp (.st [.sp 128 [], .nilm, .sp 129 [], .sc .i 0, .sc .b false, .sc .i 0, .sc .b false]), .pv (.sc .i keep), .pv (.sc .i torn)], [] => some (none, dev_On_z_enc (dev_On_z keep torn))
  | _, _ => none
theorem dev_On_z_tok : TblOK Try.prog noG dev_On_z_T := .cons ⟨by kernel_rfl, dev_off_z_ok⟩ (.cons ⟨by kernel_rfl, dev_back_ok⟩ (.nil))
theorem dev_On_z_ok : FnOK Try.prog noG 18 (unW dev_On_z_c) := by
  refine FnOK.ofC (T := dev_On_z_T) (nt := 72) (np := 0) (mv := []) (nf := false) (hs := dev_On_z_hs) (fn := Try.f18) (body := dev_On_z_b) dev_On_z_tok (by kernel_rfl) (by kernel_rfl) (by kernel_rfl) (by kernel_rfl) (c := dev_On_z_c) (lv := dev_On_z_lv) ?_
  intro xs mem p out h hp
  unfold dev_On_z_c at h
  split at h
  · cases h
    exact dev_On_z_w _ _ rfl
  · cases h
end
end Go.Proofs.Ytgecpcajmhgboaa.M

namespace Go.Proofs.Ytgecpcajmhgboaa.M
open Go
noncomputable section
set_option maxRecDepth 100000
set_option maxHeartbeats 0
noncomputable def dev_Sectors_n_T : Tbl := [(26, [], dev_off_n_c)]
noncomputable def dev_Sectors_n_C : CfgW := mkC Try.prog noG dev_Sectors_n_T 10 0 false
def dev_Sectors_n_lv : Nat → List Nat := fun i => []
noncomputable abbrev dev_Sectors_n_b : Code := Try.f22.body.getD .skip
noncomputable abbrev dev_Sectors_n_r : List ResultVar := Try.f22.results.toList
def dev_Sectors_n_hs : List Nat := []

def dev_Sectors_n_enc (r : Int) : CallOut := ⟨.pv (.sc .i r), [], true, []⟩
theorem dev_Sectors_n_e  (Q : CallOut → Prop) : evalFnP dev_Sectors_n_C dev_Sectors_n_lv dev_Sectors_n_r dev_Sectors_n_hs dev_Sectors_n_b [.pv .nilp] [] Q =
    (Q (dev_Sectors_n_enc (0 : Int))) := by kernel_rfl
theorem dev_Sectors_n_w  {Q : CallOut → Prop} (h : Q (dev_Sectors_n_enc (dev_Sectors_n ))) : evalFnP dev_Sectors_n_C dev_Sectors_n_lv dev_Sectors_n_r dev_Sectors_n_hs dev_Sectors_n_b [.pv .nilp] [] Q :=
  Eq.mpr (dev_Sectors_n_e  Q) (have h := Eq.mp (congrArg (fun r => Q (dev_Sectors_n_enc r)) (dev_Sectors_n_q )) h; h)
def dev_Sectors_n_c : Ans
  | [.pv .nilp], [] => some (none, dev_Sectors_n_enc (dev_Sectors_n ))
  | _, _ => none
theorem dev_Sectors_n_tok : TblOK Try.prog noG dev_Sectors_n_T := .cons ⟨by kernel_rfl, dev_off_n_ok⟩ (.nil)
theorem dev_Sectors_n_ok : FnOK Try.prog noG 22 (unW dev_Sectors_n_c) := by
  refine FnOK.ofC (T := dev_Sectors_n_T) (nt := 10) (np := 0) (mv := []) (nf := false) (hs := dev_Sectors_n_hs) (fn := Try.f22) (body := dev_Sectors_n_b) dev_Sectors_n_tok (by kernel_rfl) (by kernel_rfl) (by kernel_rfl) (by kernel_rfl) (c := dev_Sectors_n_c) (lv := dev_Sectors_n_lv) ?_
  intro xs mem p out h hp
  unfold dev_Sectors_n_c at h
  split at h
  · cases h
    exact dev_Sectors_n_w  rfl
  · cases h
end
end Go.Proofs.Ytgecpcajmhgboaa.M

namespace Go.Proofs.Ytgecpcajmhgboaa.M
open Go
noncomputable section
set_option maxRecDepth 100000
set_option maxHeartbeats 0
noncomputable def dev_Sectors_z_T : Tbl := [(26, [], dev_off_z_c)]
noncomputable def dev_Sectors_z_C : CfgW := mkC Try.prog noG dev_Sectors_z_T 10 0 false
def dev_Sectors_z_lv : Nat → List Nat := fun i => []
noncomputable abbrev dev_Sectors_z_b : Code := Try.f22.body.getD .skip
noncomputable abbrev dev_Sectors_z_r : List ResultVar := Try.f22.results.toList
def dev_Sectors_z_hs : List Nat := []

def dev_Sectors_z_enc (r : Int) : CallOut := ⟨.pv (.sc .i r), [], true, []⟩
theorem dev_Sectors_z_e  (Q : CallOut → Prop) : evalFnP dev_Sectors_z_C dev_Sectors_z_lv dev_Sectors_z_r dev_Sectors_z_hs dev_Sectors_z_b [.rp (.st [.sp 128 [], .nilm, .sp 129 [], .sc .i 0, .sc .b false, .sc .i 0, .sc .b false])] [] Q =
    (Q (dev_Sectors_z_enc (0 : Int))) := by kernel_rfl
theorem dev_Sectors_z_w  {Q : CallOut → Prop} (h : Q (dev_Sectors_z_enc (dev_Sectors_z ))) : evalFnP dev_Sectors_z_C dev_Sectors_z_lv dev_Sectors_z_r dev_Sectors_z_hs dev_Sectors_z_b [.rp (.st [.sp 128 [], .nilm, .sp 129 [], .sc .i 0, .sc .b false, .sc .i 0, .sc .b false])] [] Q :=
  Eq.mpr (dev_Sectors_z_e  Q) (have h := Eq.mp (congrArg (fun r => Q (dev_Sectors_z_enc r)) (dev_Sectors_z_q )) h; h)
def dev_Sectors_z_c : Ans
  | [.rp (.st [.sp 128 [], .nilm, .sp 129 [], .sc .i 0, .sc .b false, .sc .i 0, .sc .b false])], [] => some (none, dev_Sectors_z_enc (dev_Sectors_z ))
  | _, _ => none
theorem dev_Sectors_z_tok : TblOK Try.prog noG dev_Sectors_z_T := .cons ⟨by kernel_rfl, dev_off_z_ok⟩ (.nil)
theorem dev_Sectors_z_ok : FnOK Try.prog noG 22 (unW dev_Sectors_z_c) := by
  refine FnOK.ofC (T := dev_Sectors_z_T) (nt := 10) (np := 0) (mv := []) (nf := false) (hs := dev_Sectors_z_hs) (fn := Try.f22) (body := dev_Sectors_z_b) dev_Sectors_z_tok (by kernel_rfl) (by kernel_rfl) (by kernel_rfl) (by kernel_rfl) (c := dev_Sectors_z_c) (lv := dev_Sectors_z_lv) ?_
  intro xs mem p out h hp
  unfold dev_Sectors_z_c at h
  split at h
  · cases h
    exact dev_Sectors_z_w  rfl
  · cases h
end
end Go.Proofs.Ytgecpcajmhgboaa.M

namespace Go.Proofs.Ytgecpcajmhgboaa.M
open Go
noncomputable section
set_option maxRecDepth 100000
set_option maxHeartbeats 0
noncomputable def dev_Writes_n_T : Tbl := [(26, [], dev_off_n_c)]
noncomputable def dev_Writes_n_C : CfgW := mkC Try.prog noG dev_Writes_n_T 9 0 false
def dev_Writes_n_lv : Nat → List Nat := fun i => []
noncomputable abbrev dev_Writes_n_b : Code := Try.f19.body.getD .skip
noncomputable abbrev dev_Writes_n_r : List ResultVar := Try.f19.results.toList
def dev_Writes_n_hs : List Nat := []

def dev_Writes_n_enc (r : Int) : CallOut := ⟨.pv (.sc .i r), [], true, []⟩
theorem dev_Writes_n_e  (Q : CallOut → Prop) : evalFnP dev_Writes_n_C dev_Writes_n_lv dev_Writes_n_r dev_Writes_n_hs dev_Writes_n_b [.pv .nilp] [] Q =
    (Q (dev_Writes_n_enc (0 : Int))) := by kernel_rfl
theorem dev_Writes_n_w  {Q : CallOut → Prop} (h : Q (dev_Writes_n_enc (dev_Writes_n ))) : evalFnP dev_Writes_n_C dev_Writes_n_lv dev_Writes_n_r dev_Writes_n_hs dev_Writes_n_b [.pv .nilp] [] Q :=
  Eq.mpr (dev_Writes_n_e  Q) (have h := Eq.mp (congrArg (fun r => Q (dev_Writes_n_enc r)) (dev_Writes_n_q )) h; h)
def dev_Writes_n_c : Ans
  | [.pv .nilp], [] => some (none, dev_Writes_n_enc (dev_Writes_n ))
  | _, _ => none
theorem dev_Writes_n_tok : TblOK Try.prog noG dev_Writes_n_T := .cons ⟨by kernel_rfl, dev_off_n_ok⟩ (.nil)
theorem dev_Writes_n_ok : FnOK Try.prog noG 19 (unW dev_Writes_n_c) := by
  refine FnOK.ofC (T := dev_Writes_n_T) (nt := 9) (np := 0) (mv := []) (nf := false) (hs := dev_Writes_n_hs) (fn := Try.f19) (body := dev_Writes_n_b) dev_Writes_n_tok (by kernel_rfl) (by kernel_rfl) (by kernel_rfl) (by kernel_rfl) (c := dev_Writes_n_c) (lv := dev_Writes_n_lv) ?_
  intro xs mem p out h hp
  unfold dev_Writes_n_c at h
  split at h
  · cases h
    exact dev_Writes_n_w  rfl
  · cases h
end
end Go.Proofs.Ytgecpcajmhgboaa.M

namespace Go.Proofs.Ytgecpcajmhgboaa.M
open Go
noncomputable section
set_option maxRecDepth 100000
set_option maxHeartbeats 0
noncomputable def dev_Writes_z_T : Tbl := [(26, [], dev_off_z_c)]
noncomputable def dev_Writes_z_C : CfgW := mkC Try.prog noG dev_Writes_z_T 9 0 false
def dev_Writes_z_lv : Nat → List Nat := fun i => []
noncomputable abbrev dev_Writes_z_b : Code := Try.f19.body.getD .skip
noncomputable abbrev dev_Writes_z_r : List ResultVar := Try.f19.results.toList
def dev_Writes_z_hs : List Nat := []

def dev_Writes_z_enc (r : Int) : CallOut := ⟨.pv (.sc .i r), [], true, []⟩
theorem dev_Writes_z_e  (Q : CallOut → Prop) : evalFnP dev_Writes_z_C dev_Writes_z_lv dev_Writes_z_r dev_Writes_z_hs dev_Writes_z_b [.rp (.st [.sp 128 [], .nilm, .sp 129 [], .sc .i 0, .sc .b false, .sc .i 0, .sc .b false])] [] Q =
    (Q (dev_Writes_z_enc (0 : Int))) := by kernel_rfl
theorem dev_Writes_z_w  {Q : CallOut → Prop} (h : Q (dev_Writes_z_enc (dev_Writes_z ))) : evalFnP dev_Writes_z_C dev_Writes_z_lv dev_Writes_z_r dev_Writes_z_hs dev_Writes_z_b [.rp (.st [.sp 128 [], .nilm, .sp 129 [], .sc .i 0, .sc .b false, .sc .i 0, .sc .b false])] [] Q :=
  Eq.mpr (dev_Writes_z_e  Q) (have h := Eq.mp (congrArg (fun r => Q (dev_Writes_z_enc r)) (dev_Writes_z_q )) h; h)
def dev_Writes_z_c : Ans
  | [.rp (.st [.sp 128 [], .nilm, .sp 129 [], .sc .i 0, .sc .b false, .sc .i 0, .sc .b false])], [] => some (none, dev_Writes_z_enc (dev_Writes_z ))
  | _, _ => none
theorem dev_Writes_z_tok : TblOK Try.prog noG dev_Writes_z_T := .cons ⟨by kernel_rfl, dev_off_z_ok⟩ (.nil)
theorem dev_Writes_z_ok : FnOK Try.prog noG 19 (unW dev_Writes_z_c) := by
  refine FnOK.ofC (T := dev_Writes_z_T) (nt := 9) (np := 0) (mv := []) (nf := false) (hs := dev_Writes_z_hs) (fn := Try.f19) (body := dev_Writes_z_b) dev_Writes_z_tok (by kernel_rfl) (by kernel_rfl) (by kernel_rfl) (by kernel_rfl) (c := dev_Writes_z_c) (lv := dev_Writes_z_lv) ?_
  intro xs mem p out h hp
  unfold dev_Writes_z_c at h
  split at h
  · cases h
    exact dev_Writes_z_w  rfl
  · cases h
end
end Go.Proofs.Ytgecpcajmhgboaa.M

namespace Go.Proofs.Ytgecpcajmhgboaa.M
open Go
noncomputable section
set_option maxRecDepth 100000
set_option maxHeartbeats 0
noncomputable def dev_Image_n_T : Tbl := [(26, [], dev_off_n_c)]
noncomputable def dev_Image_n_C : CfgW := mkC Try.prog noG dev_Image_n_T 29 0 false
def dev_Image_n_lv : Nat → List Nat := fun i => bif Nat.beq i 0 then [3, 18, 19, 20] else []
noncomputable abbrev dev_Image_n_b : Code := Try.f17.body.getD .skip
noncomputable abbrev dev_Image_n_r : List ResultVar := Try.f17.results.toList
def dev_Image_n_hs : List Nat := []

def dev_Image_n_enc (r : List UInt8) : CallOut := ⟨.o 60000, [(60000, .row (.s .u8 r) false)], true, []⟩
theorem dev_Image_n_e  (Q : CallOut → Prop) : evalFnP dev_Image_n_C dev_Image_n_lv dev_Image_n_r dev_Image_n_hs dev_Image_n_b [.pv .nilp] [] Q =
    (Q (dev_Image_n_enc ([] : List UInt8))) := by kernel_rfl
theorem dev_Image_n_w  {Q : CallOut → Prop} (h : Q (dev_Image_n_enc (dev_Image_n ))) : evalFnP dev_Image_n_C dev_Image_n_lv dev_Image_n_r dev_Image_n_hs dev_Image_n_b [.pv .nilp] [] Q :=
  Eq.mpr (dev_Image_n_e  Q) (have h := Eq.mp (congrArg (fun r => Q (dev_Image_n_enc r)) (dev_Image_n_q )) h; h)
def dev_Image_n_c : Ans
  | [.pv .nilp], [] => some (none, dev_Image_n_enc (dev_Image_n ))
  | _, _ => none
theorem dev_Image_n_tok : TblOK Try.prog noG dev_Image_n_T := .cons ⟨by kernel_rfl, dev_off_n_ok⟩ (.nil)
theorem dev_Image_n_ok : FnOK Try.prog noG 17 (unW dev_Image_n_c) := by
  refine FnOK.ofC (T := dev_Image_n_T) (nt := 29) (np := 0) (mv := []) (nf := false) (hs := dev_Image_n_hs) (fn := Try.f17) (body := dev_Image_n_b) dev_Image_n_tok (by kernel_rfl) (by kernel_rfl) (by kernel_rfl) (by kernel_rfl) (c := dev_Image_n_c) (lv := dev_Image_n_lv) ?_
  intro xs mem p out h hp
  unfold dev_Image_n_c at h
  split at h
  · cases h
    exact dev_Image_n_w  rfl
  · cases h
end
end Go.Proofs.Ytgecpcajmhgboaa.M

namespace Go.Proofs.Ytgecpcajmhgboaa.M
open Go
noncomputable section
set_option maxRecDepth 100000
set_option maxHeartbeats 0
noncomputable def dev_Image_z_T : Tbl := [(26, [], dev_off_z_c)]
noncomputable def dev_Image_z_C : CfgW := mkC Try.prog noG dev_Image_z_T 29 0 false
def dev_Image_z_lv : Nat → List Nat := fun i => bif Nat.beq i 0 then [3, 18, 19, 20] else []
noncomputable abbrev dev_Image_z_b : Code := Try.f17.body.getD .skip
noncomputable abbrev dev_Image_z_r : List ResultVar := Try.f17.results.toList
def dev_Image_z_hs : List Nat := []

def dev_Image_z_enc (r : List UInt8) : CallOut := ⟨.o 60000, [(60000, .row (.s .u8 r) false)], true, []⟩
theorem dev_Image_z_e  (Q : CallOut → Prop) : evalFnP dev_Image_z_C dev_Image_z_lv dev_Image_z_r dev_Image_z_hs dev_Image_z_b [.rp (.st [.sp 128 [], .nilm, .sp 129 [], .sc .i 0, .sc .b false, .sc .i 0, .sc .b false])] [] Q =
    (Q (dev_Image_z_enc ([] : List UInt8))) := by kernel_rfl
theorem dev_Image_z_w  {Q : CallOut → Prop} (h : Q (dev_Image_z_enc (dev_Image_z ))) : evalFnP dev_Image_z_C dev_Image_z_lv dev_Image_z_r dev_Image_z_hs dev_Image_z_b [.rp (.st [.sp 128 [], .nilm, .sp 129 [], .sc .i 0, .sc .b false, .sc .i 0, .sc .b false])] [] Q :=
  Eq.mpr (dev_Image_z_e  Q) (have h := Eq.mp (congrArg (fun r => Q (dev_Image_z_enc r)) (dev_Image_z_q )) h; h)
def dev_Image_z_c : Ans
  | [.rp (.st [.sp 128 [], .nilm, .sp 129 [], .sc .i 0, .sc .b false, .sc .i 0, .sc .b false])], [] => some (none, dev_Image_z_enc (dev_Image_z ))
  | _, _ => none
theorem dev_Image_z_tok : TblOK Try.prog noG dev_Image_z_T := .cons ⟨by kernel_rfl, dev_off_z_ok⟩ (.nil)
theorem dev_Image_z_ok : FnOK Try.prog noG 17 (unW dev_Image_z_c) := by
  refine FnOK.ofC (T := dev_Image_z_T) (nt := 29) (np := 0) (mv := []) (nf := false) (hs := dev_Image_z_hs) (fn := Try.f17) (body := dev_Image_z_b) dev_Image_z_tok (by kernel_rfl) (by kernel_rfl) (by kernel_rfl) (by kernel_rfl) (c := dev_Image_z_c) (lv := dev_Image_z_lv) ?_
  intro xs mem p out h hp
  unfold dev_Image_z_c at h
  split at h
  · cases h
    exact dev_Image_z_w  rfl
  · cases h
end
end Go.Proofs.Ytgecpcajmhgboaa.M

namespace Go.Proofs.Ytgecpcajmhgboaa.M
open Go
noncomputable section
set_option maxRecDepth 100000
set_option maxHeartbeats 0
noncomputable def dev_New_T : Tbl := []
noncomputable def dev_New_C : CfgW := mkC Try.prog noG dev_New_T 15 0 false noIt [13]
def dev_New_lv : Nat → List Nat := fun i => []
noncomputable abbrev dev_New_b : Code := Try.f8.body.getD .skip
noncomputable abbrev dev_New_r : List ResultVar := Try.f8.results.toList
def dev_New_hs : List Nat := []

def dev_New_enc : (Int) ⊕ (Int × Int × Bool × Int × Bool × List PV × (List (PV × PV)) × List PV) → CallOut
  | .inl r => ⟨.tup [.pv .nilp, .pv (.sc .i r)], [], true, []⟩
  | .inr r => ⟨.tup [.p 60000 [], .pv (.sc .i r.1)], [(60000, .box (.st [.o 60001, .o 60002, .o 60003, .pv (.sc .i r.2.1), .pv (.sc .b r.2.2.1), .pv (.sc .i r.2.2.2.1), .pv (.sc .b r.2.2.2.2.1)])), (60001, .row (.p 128 r.2.2.2.2.2.1) false), (60002, .map r.2.2.2.2.2.2.1), (60003, .row (.p 129 r.2.2.2.2.2.2.2) false)], true, []⟩
theorem dev_New_e (sectors : Int) (Q : CallOut → Prop) : evalFnP dev_New_C dev_New_lv dev_New_r dev_New_hs dev_New_b [.pv (.sc .i sectors)] [] Q =
    (condP (eqb (decide (sectors < (1 : Int))) false) (condP (bif false then true else (decide ((16384 : Int) < sectors))) (Q (dev_New_enc (.inl (2 : Int)))) ((((0 : Int) ≤ sectors) ∧ ((sectors ≤ sectors) ∧ (((sectors * (((128 : Nat) : Nat) : Int)) ≤ (((70368744177664 : Nat) : Nat) : Int)) ∧ (sectors ≤ ((2 : Int) ^ (62 : Nat)))))) ∧ (((((PV.flats ([] : List PV)) = true) ∧ (((PV.flats (List.map (fun (z2 : PV × PV) => (Prod.fst z2)) ([] : List (PV × PV)))) && (PV.flats (List.map (fun (z2 : PV × PV) => (Prod.snd z2)) ([] : List (PV × PV))))) = true)) ∧ ((PV.flats (List.replicate (Int.toNat sectors) (PV.arr EK.u8 (128 : Nat) (Vector.replicate (128 : Nat) (0 : UInt8))))) = true)) ∧ (Q (dev_New_enc (.inr ((0 : Int), (0 : Int), false, (0 : Int), false, (List.replicate (Int.toNat sectors) (PV.arr EK.u8 (128 : Nat) (Vector.replicate (128 : Nat) (0 : UInt8)))), ([] : List (PV × PV)), ([] : List PV)))))))) (Q (dev_New_enc (.inl (2 : Int))))) := by kernel_rfl
theorem dev_New_w (sectors : Int) {r} {Q : CallOut → Prop} (h : dev_New sectors = some r) (hQ : Q (dev_New_enc r)) : evalFnP dev_New_C dev_New_lv dev_New_r dev_New_hs dev_New_b [.pv (.sc .i sectors)] [] Q :=
  Eq.mpr (dev_New_e sectors Q) (have h := (dev_New_q sectors).symm.trans h; cond_ok h (fun h => cond_ok h (fun h => ret_ok (Q := Q) (e := dev_New_enc) h hQ) (fun h => ite_ok h fun hc0 h => ite_ok h fun hc1 h => ret_ok (Q := Q) (e := dev_New_enc) h hQ)) (fun h => ret_ok (Q := Q) (e := dev_New_enc) h hQ))
def dev_New_c : Ans
  | [.pv (.sc .i sectors)], [] => some (none, dev_New_enc (bif newOK sectors then .inr (0, (dvNew sectors).done, (dvNew sectors).cut, (dvNew sectors).left, (dvNew sectors).dark, (dvNew sectors).now, (dvNew sectors).sure, (dvNew sectors).writes) else .inl 2))
  | _, _ => none
theorem dev_New_tok : TblOK Try.prog noG dev_New_T := .nil
theorem dev_New_ok : FnOK Try.prog noG 8 (unW dev_New_c) := by
  refine FnOK.ofC (T := dev_New_T) (nt := 15) (np := 0) (mv := [13]) (nf := false) (hs := dev_New_hs) (fn := Try.f8) (body := dev_New_b) dev_New_tok (by kernel_rfl) (by kernel_rfl) (by kernel_rfl) (by kernel_rfl) (c := dev_New_c) (lv := dev_New_lv) ?_
  intro xs mem p out h hp
  unfold dev_New_c at h
  split at h
  · cases h
    exact dev_New_w _ (dev_New_specD _) rfl
  · cases h
end
end Go.Proofs.Ytgecpcajmhgboaa.M

namespace Go.Proofs.Ytgecpcajmhgboaa.M
open Go
noncomputable section
set_option maxRecDepth 100000
set_option maxHeartbeats 0
noncomputable def dev_off_T : Tbl := []
noncomputable def dev_off_C : CfgW := mkC Try.prog noG dev_off_T 12 1 false
def dev_off_lv : Nat → List Nat := fun i => []
noncomputable abbrev dev_off_b : Code := Try.f26.body.getD .skip
noncomputable abbrev dev_off_r : List ResultVar := Try.f26.results.toList
def dev_off_hs : List Nat := [0]

def dev_off_enc (r : Bool × Int × Bool × Int × Bool × List PV × (List (PV × PV)) × List PV) : CallOut := ⟨.pv (.sc .b r.1), [(60000, .box (.st [.o 60001, .o 60002, .o 60003, .pv (.sc .i r.2.1), .pv (.sc .b r.2.2.1), .pv (.sc .i r.2.2.2.1), .pv (.sc .b r.2.2.2.2.1)])), (60001, .row (.p 128 r.2.2.2.2.2.1) false), (60002, .map r.2.2.2.2.2.2.1), (60003, .row (.p 129 r.2.2.2.2.2.2.2) false)], true, [(0, .p 60000 [])]⟩
theorem dev_off_e (now : List PV) (sure : List (PV × PV)) (writes : List PV) (done : Int) (cut : Bool) (left : Int) (dark : Bool) (Q : CallOut → Prop) : evalFnP dev_off_C dev_off_lv dev_off_r dev_off_hs dev_off_b [.p 60000 []] [(60000, .box (.st [.o 60001, .o 60002, .o 60003, .pv (.sc .i done), .pv (.sc .b cut), .pv (.sc .i left), .pv (.sc .b dark)])), (60001, .row (.p 128 now) false), (60002, .map sure), (60003, .row (.p 129 writes) false)] Q =
    (((((PV.flats writes) = true) ∧ (((PV.flats (List.map (fun (z8 : PV × PV) => (Prod.fst z8)) sure)) && (PV.flats (List.map (fun (z8 : PV × PV) => (Prod.snd z8)) sure))) = true)) ∧ ((PV.flats now) = true)) ∧ (Q (dev_off_enc (false, done, cut, left, dark, now, sure, writes)))) := by kernel_rfl
theorem dev_off_w (now : List PV) (sure : List (PV × PV)) (writes : List PV) (done : Int) (cut : Bool) (left : Int) (dark : Bool) {r} {Q : CallOut → Prop} (h : dev_off now sure writes done cut left dark = some r) (hQ : Q (dev_off_enc r)) : evalFnP dev_off_C dev_off_lv dev_off_r dev_off_hs dev_off_b [.p 60000 []] [(60000, .box (.st [.o 60001, .o 60002, .o 60003, .pv (.sc .i done), .pv (.sc .b cut), .pv (.sc .i left), .pv (.sc .b dark)])), (60001, .row (.p 128 now) false), (60002, .map sure), (60003, .row (.p 129 writes) false)] Q :=
  Eq.mpr (dev_off_e now sure writes done cut left dark Q) (have h := (dev_off_q now sure writes done cut left dark).symm.trans h; ite_ok h fun hc0 h => ret_ok (Q := Q) (e := dev_off_enc) h hQ)
def dev_off_c : Ans
  | [.p 60000 []], [(60000, .box (.st [.o 60001, .o 60002, .o 60003, .pv (.sc .i done), .pv (.sc .b cut), .pv (.sc .i left), .pv (.sc .b dark)])), (60001, .row (.p 128 now) false), (60002, .map sure), (60003, .row (.p 129 writes) false)] => some (some (devB now sure writes = true), dev_off_enc ((false, done, cut, left, dark, now, sure, writes)))
  | _, _ => none
theorem dev_off_tok : TblOK Try.prog noG dev_off_T := .nil
theorem dev_off_ok : FnOK Try.prog noG 26 (unW dev_off_c) := by
  refine FnOK.ofC (T := dev_off_T) (nt := 12) (np := 1) (mv := []) (nf := false) (hs := dev_off_hs) (fn := Try.f26) (body := dev_off_b) dev_off_tok (by kernel_rfl) (by kernel_rfl) (by kernel_rfl) (by kernel_rfl) (c := dev_off_c) (lv := dev_off_lv) ?_
  intro xs mem p out h hp
  unfold dev_off_c at h
  split at h
  · cases h
    exact dev_off_w _ _ _ _ _ _ _ (dev_off_spec _ _ _ _ _ _ _ hp) rfl
  · cases h
end
end Go.Proofs.Ytgecpcajmhgboaa.M

namespace Go.Proofs.Ytgecpcajmhgboaa.M
open Go
noncomputable section
set_option maxRecDepth 100000
set_option maxHeartbeats 0
noncomputable def dev_Write_T : Tbl := [(26, [true], dev_off_c), (27, [true, false], dev_state_c), (28, [true], dev_lose_c), (29, [true, false, false], dev_set_c)]
noncomputable def dev_Write_C : CfgW := mkC Try.prog noG dev_Write_T 69 1 false noIt [56]
def dev_Write_lv : Nat → List Nat := fun i => []
noncomputable abbrev dev_Write_b : Code := Try.f11.body.getD .skip
noncomputable abbrev dev_Write_r : List ResultVar := Try.f11.results.toList
def dev_Write_hs : List Nat := [0]

def dev_Write_enc (r : Int × Int × Bool × Int × Bool × List PV × (List (PV × PV)) × List PV) : CallOut := ⟨.pv (.sc .i r.1), [(60000, .box (.st [.o 60001, .o 60002, .o 60003, .pv (.sc .i r.2.1), .pv (.sc .b r.2.2.1), .pv (.sc .i r.2.2.2.1), .pv (.sc .b r.2.2.2.2.1)])), (60001, .row (.p 128 r.2.2.2.2.2.1) false), (60002, .map r.2.2.2.2.2.2.1), (60003, .row (.p 129 r.2.2.2.2.2.2.2) false)], true, [(0, .p 60000 [])]⟩
theorem dev_Write_e (now : List PV) (sure : List (PV × PV)) (writes : List PV) (done : Int) (cut : Bool) (left : Int) (dark : Bool) (n : Int) (b : List UInt8) (Q : CallOut → Prop) : evalFnP dev_Write_C dev_Write_lv dev_Write_r dev_Write_hs dev_Write_b [.p 60000 [], .pv (.sc .i n), .pv (.sl .u8 b)] [(60000, .box (.st [.o 60001, .o 60002, .o 60003, .pv (.sc .i done), .pv (.sc .b cut), .pv (.sc .i left), .pv (.sc .b dark)])), (60001, .row (.p 128 now) false), (60002, .map sure), (60003, .row (.p 129 writes) false)] Q =
    (((devB now sure writes) = true) ∧ (condP (!(decide ((((List.length b) : Nat) : Int) = (128 : Int)))) (((((PV.flats writes) = true) ∧ (((PV.flats (List.map (fun (z10 : PV × PV) => (Prod.fst z10)) sure)) && (PV.flats (List.map (fun (z10 : PV × PV) => (Prod.snd z10)) sure))) = true)) ∧ ((PV.flats now) = true)) ∧ (Q (dev_Write_enc ((2 : Int), done, cut, left, dark, now, sure, writes)))) (((devB now sure writes) = true) ∧ (condP (!(decide ((stateV now dark n) = (0 : Int)))) (((((PV.flats writes) = true) ∧ (((PV.flats (List.map (fun (z10 : PV × PV) => (Prod.fst z10)) sure)) && (PV.flats (List.map (fun (z10 : PV × PV) => (Prod.snd z10)) sure))) = true)) ∧ ((PV.flats now) = true)) ∧ (Q (dev_Write_enc ((stateV now dark n), done, cut, left, dark, now, sure, writes)))) (condP cut (condP (bif true then (decide (left = (0 : Int))) else false) ((devC now sure writes) ∧ (((((PV.flats writes) = true) ∧ (((PV.flats (List.map (fun (z10 : PV × PV) => (Prod.fst z10)) ([] : List (PV × PV)))) && (PV.flats (List.map (fun (z10 : PV × PV) => (Prod.snd z10)) ([] : List (PV × PV))))) = true)) ∧ ((PV.flats (backV now sure)) = true)) ∧ (Q (dev_Write_enc ((12 : Int), done, cut, left, true, (backV now sure), ([] : List (PV × PV)), writes))))) ((((128 : Nat) ≤ (List.length b)) ∧ ((0 : Nat) < (128 : Nat))) ∧ ((((devB now sure writes) = true) ∧ (((0 : Int) ≤ n) ∧ (n < (((List.length now) : Nat) : Int)))) ∧ (((((List.length (writes ++ ([(PV.st (List.set (List.set (List.reverse ([(PV.arr EK.u8 (128 : Nat) (Vector.replicate (128 : Nat) (0 : UInt8))), (PV.sc EK.i (0 : Int))] : List PV)) (0 : Nat) (PV.sc EK.i n)) (1 : Nat) (RC.arr (0 : Nat) (128 : Nat) (RC.s EK.u8 b))))] : List PV))) * (136 : Nat)) ≤ (70368744177664 : Nat)) ∧ ((List.length (writes ++ ([(PV.st (List.set (List.set (List.reverse ([(PV.arr EK.u8 (128 : Nat) (Vector.replicate (128 : Nat) (0 : UInt8))), (PV.sc EK.i (0 : Int))] : List PV)) (0 : Nat) (PV.sc EK.i n)) (1 : Nat) (RC.arr (0 : Nat) (128 : Nat) (RC.s EK.u8 b))))] : List PV))) ≤ (70368744177664 : Nat))) ∧ (((((PV.flats (writes ++ ([(PV.st (List.set (List.set (List.reverse ([(PV.arr EK.u8 (128 : Nat) (Vector.replicate (128 : Nat) (0 : UInt8))), (PV.sc EK.i (0 : Int))] : List PV)) (0 : Nat) (PV.sc EK.i n)) (1 : Nat) (RC.arr (0 : Nat) (128 : Nat) (RC.s EK.u8 b))))] : List PV))) = true) ∧ (((PV.flats (List.map (fun (z10 : PV × PV) => (Prod.fst z10)) (sureSet sure n (List.getD now (Int.toNat n) PV.nilp)))) && (PV.flats (List.map (fun (z10 : PV × PV) => (Prod.snd z10)) (sureSet sure n (List.getD now (Int.toNat n) PV.nilp))))) = true)) ∧ ((PV.flats (List.set now (Int.toNat n) (PV.arr EK.u8 (128 : Nat) (Vector.ofFn (fun (z10 : Fin 128) => (List.getD b ((0 : Nat) + (Fin.val z10)) (0 : UInt8))))))) = true)) ∧ (Q (dev_Write_enc ((0 : Int), (w64 (done + (1 : Int))), cut, (w64 (left - (1 : Int))), dark, (List.set now (Int.toNat n) (PV.arr EK.u8 (128 : Nat) (Vector.ofFn (fun (z10 : Fin 128) => (List.getD b ((0 : Nat) + (Fin.val z10)) (0 : UInt8)))))), (sureSet sure n (List.getD now (Int.toNat n) PV.nilp)), (writes ++ ([(PV.st (List.set (List.set (List.reverse ([(PV.arr EK.u8 (128 : Nat) (Vector.replicate (128 : Nat) (0 : UInt8))), (PV.sc EK.i (0 : Int))] : List PV)) (0 : Nat) (PV.sc EK.i n)) (1 : Nat) (RC.arr (0 : Nat) (128 : Nat) (RC.s EK.u8 b))))] : List PV)))))))))) ((((128 : Nat) ≤ (List.length b)) ∧ ((0 : Nat) < (128 : Nat))) ∧ ((((devB now sure writes) = true) ∧ (((0 : Int) ≤ n) ∧ (n < (((List.length now) : Nat) : Int)))) ∧ (((((List.length (writes ++ ([(PV.st (List.set (List.set (List.reverse ([(PV.arr EK.u8 (128 : Nat) (Vector.replicate (128 : Nat) (0 : UInt8))), (PV.sc EK.i (0 : Int))] : List PV)) (0 : Nat) (PV.sc EK.i n)) (1 : Nat) (RC.arr (0 : Nat) (128 : Nat) (RC.s EK.u8 b))))] : List PV))) * (136 : Nat)) ≤ (70368744177664 : Nat)) ∧ ((List.length (writes ++ ([(PV.st (List.set (List.set (List.reverse ([(PV.arr EK.u8 (128 : Nat) (Vector.replicate (128 : Nat) (0 : UInt8))), (PV.sc EK.i (0 : Int))] : List PV)) (0 : Nat) (PV.sc EK.i n)) (1 : Nat) (RC.arr (0 : Nat) (128 : Nat) (RC.s EK.u8 b))))] : List PV))) ≤ (70368744177664 : Nat))) ∧ (((((PV.flats (writes ++ ([(PV.st (List.set (List.set (List.reverse ([(PV.arr EK.u8 (128 : Nat) (Vector.replicate (128 : Nat) (0 : UInt8))), (PV.sc EK.i (0 : Int))] : List PV)) (0 : Nat) (PV.sc EK.i n)) (1 : Nat) (RC.arr (0 : Nat) (128 : Nat) (RC.s EK.u8 b))))] : List PV))) = true) ∧ (((PV.flats (List.map (fun (z10 : PV × PV) => (Prod.fst z10)) (sureSet sure n (List.getD now (Int.toNat n) PV.nilp)))) && (PV.flats (List.map (fun (z10 : PV × PV) => (Prod.snd z10)) (sureSet sure n (List.getD now (Int.toNat n) PV.nilp))))) = true)) ∧ ((PV.flats (List.set now (Int.toNat n) (PV.arr EK.u8 (128 : Nat) (Vector.ofFn (fun (z10 : Fin 128) => (List.getD b ((0 : Nat) + (Fin.val z10)) (0 : UInt8))))))) = true)) ∧ (Q (dev_Write_enc ((0 : Int), (w64 (done + (1 : Int))), cut, (w64 (left - (1 : Int))), dark, (List.set now (Int.toNat n) (PV.arr EK.u8 (128 : Nat) (Vector.ofFn (fun (z10 : Fin 128) => (List.getD b ((0 : Nat) + (Fin.val z10)) (0 : UInt8)))))), (sureSet sure n (List.getD now (Int.toNat n) PV.nilp)), (writes ++ ([(PV.st (List.set (List.set (List.reverse ([(PV.arr EK.u8 (128 : Nat) (Vector.replicate (128 : Nat) (0 : UInt8))), (PV.sc EK.i (0 : Int))] : List PV)) (0 : Nat) (PV.sc EK.i n)) (1 : Nat) (RC.arr (0 : Nat) (128 : Nat) (RC.s EK.u8 b))))] : List PV)))))))))))))) := by kernel_rfl
theorem dev_Write_w (now : List PV) (sure : List (PV × PV)) (writes : List PV) (done : Int) (cut : Bool) (left : Int) (dark : Bool) (n : Int) (b : List UInt8) {r} {Q : CallOut → Prop} (h : dev_Write now sure writes done cut left dark n b = some r) (hQ : Q (dev_Write_enc r)) : evalFnP dev_Write_C dev_Write_lv dev_Write_r dev_Write_hs dev_Write_b [.p 60000 [], .pv (.sc .i n), .pv (.sl .u8 b)] [(60000, .box (.st [.o 60001, .o 60002, .o 60003, .pv (.sc .i done), .pv (.sc .b cut), .pv (.sc .i left), .pv (.sc .b dark)])), (60001, .row (.p 128 now) false), (60002, .map sure), (60003, .row (.p 129 writes) false)] Q :=
  Eq.mpr (dev_Write_e now sure writes done cut left dark n b Q) (have h := (dev_Write_q now sure writes done cut left dark n b).symm.trans h; ite_ok h fun hc0 h => cond_ok h (fun h => ite_ok h fun hc1 h => ret_ok (Q := Q) (e := dev_Write_enc) h hQ) (fun h => ⟨hc0, cond_ok h (fun h => ite_ok h fun hc1 h => ret_ok (Q := Q) (e := dev_Write_enc) h hQ) (fun h => cond_ok h (fun h => cond_ok h (fun h => ite_ok h fun hc1 h => ite_ok h fun hc2 h => ret_ok (Q := Q) (e := dev_Write_enc) h hQ) (fun h => ite_ok h fun hc1 h => ite_ok h fun hc2 h => ite_ok h fun hc3 h => ite_ok h fun hc4 h => ret_ok (Q := Q) (e := dev_Write_enc) h hQ)) (fun h => ite_ok h fun hc1 h => ite_ok h fun hc2 h => ite_ok h fun hc3 h => ite_ok h fun hc4 h => ret_ok (Q := Q) (e := dev_Write_enc) h hQ))⟩))
def dev_Write_c : Ans
  | [.p 60000 [], .pv (.sc .i n), .pv (.sl .u8 b)], [(60000, .box (.st [.o 60001, .o 60002, .o 60003, .pv (.sc .i done), .pv (.sc .b cut), .pv (.sc .i left), .pv (.sc .b dark)])), (60001, .row (.p 128 now) false), (60002, .map sure), (60003, .row (.p 129 writes) false)] => some (some (dvW (DV.mk now sure writes done cut left dark)), dev_Write_enc (((dvWrite (DV.mk now sure writes done cut left dark) n b).1, (dvWrite (DV.mk now sure writes done cut left dark) n b).2.done, (dvWrite (DV.mk now sure writes done cut left dark) n b).2.cut, (dvWrite (DV.mk now sure writes done cut left dark) n b).2.left, (dvWrite (DV.mk now sure writes done cut left dark) n b).2.dark, (dvWrite (DV.mk now sure writes done cut left dark) n b).2.now, (dvWrite (DV.mk now sure writes done cut left dark) n b).2.sure, (dvWrite (DV.mk now sure writes done cut left dark) n b).2.writes)))
  | _, _ => none
theorem dev_Write_tok : TblOK Try.prog noG dev_Write_T := .cons ⟨by kernel_rfl, dev_off_ok⟩ (.cons ⟨by kernel_rfl, dev_state_ok⟩ (.cons ⟨by kernel_rfl, dev_lose_ok⟩ (.cons ⟨by kernel_rfl, dev_set_ok⟩ (.nil))))
theorem dev_Write_ok : FnOK Try.prog noG 11 (unW dev_Write_c) := by
  refine FnOK.ofC (T := dev_Write_T) (nt := 69) (np := 1) (mv := [56]) (nf := false) (hs := dev_Write_hs) (fn := Try.f11) (body := dev_Write_b) dev_Write_tok (by kernel_rfl) (by kernel_rfl) (by kernel_rfl) (by kernel_rfl) (c := dev_Write_c) (lv := dev_Write_lv) ?_
  intro xs mem p out h hp
  unfold dev_Write_c at h
  split at h
  · cases h
    exact dev_Write_w _ _ _ _ _ _ _ _ _ (dev_Write_specD _ _ _ _ _ _ _ _ _ hp.1 hp.2) rfl
  · cases h
end
end Go.Proofs.Ytgecpcajmhgboaa.M

namespace Go.Proofs.Ytgecpcajmhgboaa.M
open Go
noncomputable section
set_option maxRecDepth 100000
set_option maxHeartbeats 0
noncomputable def dev_On_T : Tbl := [(26, [true], dev_off_c), (30, [true], dev_back_c)]
noncomputable def dev_On_C : CfgW := mkC Try.prog noG dev_On_T 72 1 false
def dev_On_lv : Nat → List Nat := fun i => bif Nat.beq i 1 then [0, 1, 2, 24, 25, 26] else []
noncomputable abbrev dev_On_b : Code := Try.f18.body.getD .skip
noncomputable abbrev dev_On_r : List ResultVar := Try.f18.results.toList
def dev_On_hs : List Nat := [0]

def dev_On_enc (r : Int × Int × Bool × Int × Bool × List PV × (List (PV × PV)) × List PV) : CallOut := ⟨.pv (.sc .i r.1), [(60000, .box (.st [.o 60001, .o 60002, .o 60003, .pv (.sc .i r.2.1), .pv (.sc .b r.2.2.1), .pv (.sc .i r.2.2.2.1), .pv (.sc .b r.2.2.2.2.1)])), (60001, .row (.p 128 r.2.2.2.2.2.1) false), (60002, .map r.2.2.2.2.2.2.1), (60003, .row (.p 129 r.2.2.2.2.2.2.2) false)], true, [(0, .p 60000 [])]⟩
def dev_On_s1 (keep : Int) (torn : Int) (t25 : Int) (t26 : Int) (d : Int) (d1 : Bool) (d2 : Int) (d3 : Bool) (t24 : List PV) (dm : List PV) (dm' : List (PV × PV)) : St := ⟨[(0, .p 60000 []), (1, .pv (.sc .i keep)), (2, .pv (.sc .i torn)), (24, .o 60001), (25, .pv (.sc .i t25)), (26, .pv (.sc .i t26))], [(60000, .box (.st [.o 60002, .o 60003, .o 60001, .pv (.sc .i d), .pv (.sc .b d1), .pv (.sc .i d2), .pv (.sc .b d3)])), (60001, .row (.p 129 t24) false), (60002, .row (.p 128 dm) false), (60003, .map dm')]⟩
theorem dev_On_g1 (keep : Int) (torn : Int) (t25 : Int) (t26 : Int) (d : Int) (d1 : Bool) (d2 : Int) (d3 : Bool) (t24 : List PV) (dm : List PV) (dm' : List (PV × PV)) (Q : CallOut → Prop) : headRound dev_On_C dev_On_lv [true, true, true, false, true, false] dev_On_b (dev_On_s1 keep torn t25 t26 d d1 d2 d3 t24 dm dm') (fnK dev_On_C dev_On_r dev_On_hs Q) =
    (condP (decide (t26 < t25)) ((((0 : Int) ≤ t26) ∧ (t26 < (((List.length t24) : Nat) : Int))) ∧ (((TY.chk (TY.st ([(TY.sc EK.i), (TY.arr EK.u8 (128 : Nat))] : List TY)) (RC.get (RC.p (129 : Nat) t24) ([(PE.i (Int.toNat t26))] : List PE))) = true) ∧ (condP (decide (t26 = keep)) ((((0 : Int) ≤ (PV.scv EK.i (PV.fld (0 : Nat) (RC.get (RC.p (129 : Nat) t24) ([(PE.i (Int.toNat t26))] : List PE))))) ∧ ((PV.scv EK.i (PV.fld (0 : Nat) (RC.get (RC.p (129 : Nat) t24) ([(PE.i (Int.toNat t26))] : List PE)))) < (((List.length dm) : Nat) : Int))) ∧ ((((TY.chk (TY.arr EK.u8 (128 : Nat)) (RC.get (RC.p (128 : Nat) dm) ([(PE.i (Int.toNat (PV.scv EK.i (PV.fld (0 : Nat) (RC.get (RC.p (129 : Nat) t24) ([(PE.i (Int.toNat t26))] : List PE))))))] : List PE))) = true) ∧ (Cn.h (Option.some (((0 : Int) ≤ (0 : Int)) ∧ (((0 : Int) ≤ (bif true then (if ((128 : Int) < torn) then (128 : Int) else torn) else (if ((128 : Int) > torn) then (128 : Int) else torn))) ∧ ((bif true then (if ((128 : Int) < torn) then (128 : Int) else torn) else (if ((128 : Int) > torn) then (128 : Int) else torn)) ≤ (((128 : Nat) : Nat) : Int))))))) ∧ ((((0 : Int) ≤ (0 : Int)) ∧ (((0 : Int) ≤ (128 : Int)) ∧ ((128 : Int) ≤ (((128 : Nat) : Nat) : Int)))) ∧ (((TY.chk (TY.arr EK.u8 (128 : Nat)) (List.getD dm (Int.toNat (PV.scv EK.i (PV.fld (0 : Nat) (RC.get (RC.p (129 : Nat) t24) ([(PE.i (Int.toNat t26))] : List PE))))) PV.nilp)) = true) ∧ (condP (decide (keep ≤ t26)) (((((PV.flats ([] : List PV)) = true) ∧ (((PV.flats (List.map (fun (z12 : PV × PV) => (Prod.fst z12)) dm')) && (PV.flats (List.map (fun (z12 : PV × PV) => (Prod.snd z12)) dm'))) = true)) ∧ ((PV.flats (List.set dm (Int.toNat (PV.scv EK.i (PV.fld (0 : Nat) (RC.get (RC.p (129 : Nat) t24) ([(PE.i (Int.toNat t26))] : List PE))))) (RC.arr (0 : Nat) ((Int.toNat (0 : Int)) + ((128 : Nat) - (Int.toNat (0 : Int)))) (RC.s EK.u8 (overS (Int.toNat (0 : Int)) (Min.min (List.length (List.take ((Int.toNat (128 : Int)) - (Int.toNat (0 : Int))) (List.drop (Int.toNat (0 : Int)) (Vector.toList (PV.vecv EK.u8 (128 : Nat) (PV.fld (1 : Nat) (RC.get (RC.p (129 : Nat) t24) ([(PE.i (Int.toNat t26))] : List PE)))))))) ((Int.toNat (bif true then (if ((128 : Int) < torn) then (128 : Int) else torn) else (if ((128 : Int) > torn) then (128 : Int) else torn))) - (Int.toNat (0 : Int)))) (Vector.toList (PV.vecv EK.u8 ((Int.toNat (0 : Int)) + ((128 : Nat) - (Int.toNat (0 : Int)))) (List.getD dm (Int.toNat (PV.scv EK.i (PV.fld (0 : Nat) (RC.get (RC.p (129 : Nat) t24) ([(PE.i (Int.toNat t26))] : List PE))))) PV.nilp))) (List.take ((Int.toNat (128 : Int)) - (Int.toNat (0 : Int))) (List.drop (Int.toNat (0 : Int)) (Vector.toList (PV.vecv EK.u8 (128 : Nat) (PV.fld (1 : Nat) (RC.get (RC.p (129 : Nat) t24) ([(PE.i (Int.toNat t26))] : List PE)))))))))))) = true)) ∧ (Q (dev_On_enc ((0 : Int), d, false, (0 : Int), false, (List.set dm (Int.toNat (PV.scv EK.i (PV.fld (0 : Nat) (RC.get (RC.p (129 : Nat) t24) ([(PE.i (Int.toNat t26))] : List PE))))) (RC.arr (0 : Nat) ((Int.toNat (0 : Int)) + ((128 : Nat) - (Int.toNat (0 : Int)))) (RC.s EK.u8 (overS (Int.toNat (0 : Int)) (Min.min (List.length (List.take ((Int.toNat (128 : Int)) - (Int.toNat (0 : Int))) (List.drop (Int.toNat (0 : Int)) (Vector.toList (PV.vecv EK.u8 (128 : Nat) (PV.fld (1 : Nat) (RC.get (RC.p (129 : Nat) t24) ([(PE.i (Int.toNat t26))] : List PE)))))))) ((Int.toNat (bif true then (if ((128 : Int) < torn) then (128 : Int) else torn) else (if ((128 : Int) > torn) then (128 : Int) else torn))) - (Int.toNat (0 : Int)))) (Vector.toList (PV.vecv EK.u8 ((Int.toNat (0 : Int)) + ((128 : Nat) - (Int.toNat (0 : Int)))) (List.getD dm (Int.toNat (PV.scv EK.i (PV.fld (0 : Nat) (RC.get (RC.p (129 : Nat) t24) ([(PE.i (Int.toNat t26))] : List PE))))) PV.nilp))) (List.take ((Int.toNat (128 : Int)) - (Int.toNat (0 : Int))) (List.drop (Int.toNat (0 : Int)) (Vector.toList (PV.vecv EK.u8 (128 : Nat) (PV.fld (1 : Nat) (RC.get (RC.p (129 : Nat) t24) ([(PE.i (Int.toNat t26))] : List PE))))))))))), dm', ([] : List PV))))) ((((0 : Int) ≤ (PV.scv EK.i (PV.fld (0 : Nat) (RC.get (RC.p (129 : Nat) t24) ([(PE.i (Int.toNat t26))] : List PE))))) ∧ ((PV.scv EK.i (PV.fld (0 : Nat) (RC.get (RC.p (129 : Nat) t24) ([(PE.i (Int.toNat t26))] : List PE)))) < (((List.length (List.set dm (Int.toNat (PV.scv EK.i (PV.fld (0 : Nat) (RC.get (RC.p (129 : Nat) t24) ([(PE.i (Int.toNat t26))] : List PE))))) (RC.arr (0 : Nat) ((Int.toNat (0 : Int)) + ((128 : Nat) - (Int.toNat (0 : Int)))) (RC.s EK.u8 (overS (Int.toNat (0 : Int)) (Min.min (List.length (List.take ((Int.toNat (128 : Int)) - (Int.toNat (0 : Int))) (List.drop (Int.toNat (0 : Int)) (Vector.toList (PV.vecv EK.u8 (128 : Nat) (PV.fld (1 : Nat) (RC.get (RC.p (129 : Nat) t24) ([(PE.i (Int.toNat t26))] : List PE)))))))) ((Int.toNat (bif true then (if ((128 : Int) < torn) then (128 : Int) else torn) else (if ((128 : Int) > torn) then (128 : Int) else torn))) - (Int.toNat (0 : Int)))) (Vector.toList (PV.vecv EK.u8 ((Int.toNat (0 : Int)) + ((128 : Nat) - (Int.toNat (0 : Int)))) (List.getD dm (Int.toNat (PV.scv EK.i (PV.fld (0 : Nat) (RC.get (RC.p (129 : Nat) t24) ([(PE.i (Int.toNat t26))] : List PE))))) PV.nilp))) (List.take ((Int.toNat (128 : Int)) - (Int.toNat (0 : Int))) (List.drop (Int.toNat (0 : Int)) (Vector.toList (PV.vecv EK.u8 (128 : Nat) (PV.fld (1 : Nat) (RC.get (RC.p (129 : Nat) t24) ([(PE.i (Int.toNat t26))] : List PE)))))))))))) : Nat) : Int))) ∧ (((PV.size (List.getD (List.set dm (Int.toNat (PV.scv EK.i (PV.fld (0 : Nat) (RC.get (RC.p (129 : Nat) t24) ([(PE.i (Int.toNat t26))] : List PE))))) (RC.arr (0 : Nat) ((Int.toNat (0 : Int)) + ((128 : Nat) - (Int.toNat (0 : Int)))) (RC.s EK.u8 (overS (Int.toNat (0 : Int)) (Min.min (List.length (List.take ((Int.toNat (128 : Int)) - (Int.toNat (0 : Int))) (List.drop (Int.toNat (0 : Int)) (Vector.toList (PV.vecv EK.u8 (128 : Nat) (PV.fld (1 : Nat) (RC.get (RC.p (129 : Nat) t24) ([(PE.i (Int.toNat t26))] : List PE)))))))) ((Int.toNat (bif true then (if ((128 : Int) < torn) then (128 : Int) else torn) else (if ((128 : Int) > torn) then (128 : Int) else torn))) - (Int.toNat (0 : Int)))) (Vector.toList (PV.vecv EK.u8 ((Int.toNat (0 : Int)) + ((128 : Nat) - (Int.toNat (0 : Int)))) (List.getD dm (Int.toNat (PV.scv EK.i (PV.fld (0 : Nat) (RC.get (RC.p (129 : Nat) t24) ([(PE.i (Int.toNat t26))] : List PE))))) PV.nilp))) (List.take ((Int.toNat (128 : Int)) - (Int.toNat (0 : Int))) (List.drop (Int.toNat (0 : Int)) (Vector.toList (PV.vecv EK.u8 (128 : Nat) (PV.fld (1 : Nat) (RC.get (RC.p (129 : Nat) t24) ([(PE.i (Int.toNat t26))] : List PE))))))))))) (Int.toNat (PV.scv EK.i (PV.fld (0 : Nat) (RC.get (RC.p (129 : Nat) t24) ([(PE.i (Int.toNat t26))] : List PE))))) PV.nilp)) = (128 : Nat)) ∧ (headP dev_On_C dev_On_lv [true, true, true, false, true, false] dev_On_b (dev_On_s1 keep torn t25 (w64 (t26 + (1 : Int))) d d1 d2 d3 t24 (List.set (List.set dm (Int.toNat (PV.scv EK.i (PV.fld (0 : Nat) (RC.get (RC.p (129 : Nat) t24) ([(PE.i (Int.toNat t26))] : List PE))))) (RC.arr (0 : Nat) ((Int.toNat (0 : Int)) + ((128 : Nat) - (Int.toNat (0 : Int)))) (RC.s EK.u8 (overS (Int.toNat (0 : Int)) (Min.min (List.length (List.take ((Int.toNat (128 : Int)) - (Int.toNat (0 : Int))) (List.drop (Int.toNat (0 : Int)) (Vector.toList (PV.vecv EK.u8 (128 : Nat) (PV.fld (1 : Nat) (RC.get (RC.p (129 : Nat) t24) ([(PE.i (Int.toNat t26))] : List PE)))))))) ((Int.toNat (bif true then (if ((128 : Int) < torn) then (128 : Int) else torn) else (if ((128 : Int) > torn) then (128 : Int) else torn))) - (Int.toNat (0 : Int)))) (Vector.toList (PV.vecv EK.u8 ((Int.toNat (0 : Int)) + ((128 : Nat) - (Int.toNat (0 : Int)))) (List.getD dm (Int.toNat (PV.scv EK.i (PV.fld (0 : Nat) (RC.get (RC.p (129 : Nat) t24) ([(PE.i (Int.toNat t26))] : List PE))))) PV.nilp))) (List.take ((Int.toNat (128 : Int)) - (Int.toNat (0 : Int))) (List.drop (Int.toNat (0 : Int)) (Vector.toList (PV.vecv EK.u8 (128 : Nat) (PV.fld (1 : Nat) (RC.get (RC.p (129 : Nat) t24) ([(PE.i (Int.toNat t26))] : List PE))))))))))) (Int.toNat (PV.scv EK.i (PV.fld (0 : Nat) (RC.get (RC.p (129 : Nat) t24) ([(PE.i (Int.toNat t26))] : List PE))))) (PV.arr EK.u8 (128 : Nat) (PV.vecv EK.u8 (128 : Nat) (PV.fld (1 : Nat) (RC.get (RC.p (129 : Nat) t24) ([(PE.i (Int.toNat t26))] : List PE)))))) dm') (fnK dev_On_C dev_On_r dev_On_hs Q))))))))) (condP (decide (keep ≤ t26)) (((((PV.flats ([] : List PV)) = true) ∧ (((PV.flats (List.map (fun (z12 : PV × PV) => (Prod.fst z12)) dm')) && (PV.flats (List.map (fun (z12 : PV × PV) => (Prod.snd z12)) dm'))) = true)) ∧ ((PV.flats dm) = true)) ∧ (Q (dev_On_enc ((0 : Int), d, false, (0 : Int), false, dm, dm', ([] : List PV))))) ((((0 : Int) ≤ (PV.scv EK.i (PV.fld (0 : Nat) (RC.get (RC.p (129 : Nat) t24) ([(PE.i (Int.toNat t26))] : List PE))))) ∧ ((PV.scv EK.i (PV.fld (0 : Nat) (RC.get (RC.p (129 : Nat) t24) ([(PE.i (Int.toNat t26))] : List PE)))) < (((List.length dm) : Nat) : Int))) ∧ (((PV.size (List.getD dm (Int.toNat (PV.scv EK.i (PV.fld (0 : Nat) (RC.get (RC.p (129 : Nat) t24) ([(PE.i (Int.toNat t26))] : List PE))))) PV.nilp)) = (128 : Nat)) ∧ (headP dev_On_C dev_On_lv [true, true, true, false, true, false] dev_On_b (dev_On_s1 keep torn t25 (w64 (t26 + (1 : Int))) d d1 d2 d3 t24 (List.set dm (Int.toNat (PV.scv EK.i (PV.fld (0 : Nat) (RC.get (RC.p (129 : Nat) t24) ([(PE.i (Int.toNat t26))] : List PE))))) (PV.arr EK.u8 (128 : Nat) (PV.vecv EK.u8 (128 : Nat) (PV.fld (1 : Nat) (RC.get (RC.p (129 : Nat) t24) ([(PE.i (Int.toNat t26))] : List PE)))))) dm') (fnK dev_On_C dev_On_r dev_On_hs Q)))))))) (((((PV.flats ([] : List PV)) = true) ∧ (((PV.flats (List.map (fun (z12 : PV × PV) => (Prod.fst z12)) dm')) && (PV.flats (List.map (fun (z12 : PV × PV) => (Prod.snd z12)) dm'))) = true)) ∧ ((PV.flats dm) = true)) ∧ (Q (dev_On_enc ((0 : Int), d, false, (0 : Int), false, dm, dm', ([] : List PV)))))) := by kernel_rfl
theorem dev_On_k1 {r : Int × Int × Bool × Int × Bool × List PV × (List (PV × PV)) × List PV} {Q : CallOut → Prop} (hQ : Q (dev_On_enc r)) : ∀ k : Nat, (∀ (keep : Int) (torn : Int) (t25 : Int) (t26 : Int) (d : Int) (d1 : Bool) (d2 : Int) (d3 : Bool) (t24 : List PV) (dm : List PV) (dm' : List (PV × PV)), dev_On_h1 k keep torn t25 t26 d d1 d2 d3 t24 dm dm' = some r → headP dev_On_C dev_On_lv [true, true, true, false, true, false] dev_On_b (dev_On_s1 keep torn t25 t26 d d1 d2 d3 t24 dm dm') (fnK dev_On_C dev_On_r dev_On_hs Q))
  | 0 => fun _ _ _ _ _ _ _ _ _ _ _ h => no_ok h
  | k + 1 => fun keep torn t25 t26 d d1 d2 d3 t24 dm dm' h => headP_step (Eq.mpr (dev_On_g1 keep torn t25 t26 d d1 d2 d3 t24 dm dm' Q) (have h := (dev_On_h1_q k keep torn t25 t26 d d1 d2 d3 t24 dm dm').symm.trans h; cond_ok h (fun h => ite_ok h fun hc0 h => ite_ok h fun hc1 h => cond_ok h (fun h => ite_ok h fun hc2 h => ite_ok h fun hc3 h => ⟨by decide +kernel, ite_ok h fun hc4 h => cond_ok h (fun h => ite_ok h fun hc5 h => ret_ok (Q := Q) (e := dev_On_enc) h hQ) (fun h => ite_ok h fun hc5 h => ite_ok h fun hc6 h => (dev_On_k1 hQ k) _ _ _ _ _ _ _ _ _ _ _ h)⟩) (fun h => cond_ok h (fun h => ite_ok h fun hc2 h => ret_ok (Q := Q) (e := dev_On_enc) h hQ) (fun h => ite_ok h fun hc2 h => ite_ok h fun hc3 h => (dev_On_k1 hQ k) _ _ _ _ _ _ _ _ _ _ _ h))) (fun h => ite_ok h fun hc0 h => ret_ok (Q := Q) (e := dev_On_enc) h hQ)))
theorem dev_On_e (now : List PV) (sure : List (PV × PV)) (writes : List PV) (done : Int) (cut : Bool) (left : Int) (dark : Bool) (keep : Int) (torn : Int) (Q : CallOut → Prop) : evalFnP dev_On_C dev_On_lv dev_On_r dev_On_hs dev_On_b [.p 60000 [], .pv (.sc .i keep), .pv (.sc .i torn)] [(60000, .box (.st [.o 60001, .o 60002, .o 60003, .pv (.sc .i done), .pv (.sc .b cut), .pv (.sc .i left), .pv (.sc .b dark)])), (60001, .row (.p 128 now) false), (60002, .map sure), (60003, .row (.p 129 writes) false)] Q =
    (((devB now sure writes) = true) ∧ (condP (eqb (decide (keep < (0 : Int))) false) (condP (bif false then true else (decide (torn < (0 : Int)))) (((((PV.flats writes) = true) ∧ (((PV.flats (List.map (fun (z10 : PV × PV) => (Prod.fst z10)) sure)) && (PV.flats (List.map (fun (z10 : PV × PV) => (Prod.snd z10)) sure))) = true)) ∧ ((PV.flats now) = true)) ∧ (Q (dev_On_enc ((2 : Int), done, cut, left, dark, now, sure, writes)))) ((devC now sure writes) ∧ (headP dev_On_C dev_On_lv [true, true, true, false, true, false] dev_On_b (dev_On_s1 keep torn (((List.length writes) : Nat) : Int) (0 : Int) done cut left dark writes (backV now sure) ([] : List (PV × PV))) (fnK dev_On_C dev_On_r dev_On_hs Q)))) (((((PV.flats writes) = true) ∧ (((PV.flats (List.map (fun (z10 : PV × PV) => (Prod.fst z10)) sure)) && (PV.flats (List.map (fun (z10 : PV × PV) => (Prod.snd z10)) sure))) = true)) ∧ ((PV.flats now) = true)) ∧ (Q (dev_On_enc ((2 : Int), done, cut, left, dark, now, sure, writes)))))) := by kernel_rfl
theorem dev_On_w {k : Nat} (now : List PV) (sure : List (PV × PV)) (writes : List PV) (done : Int) (cut : Bool) (left : Int) (dark : Bool) (keep : Int) (torn : Int) {r} {Q : CallOut → Prop} (h : dev_On k now sure writes done cut left dark keep torn = some r) (hQ : Q (dev_On_enc r)) : evalFnP dev_On_C dev_On_lv dev_On_r dev_On_hs dev_On_b [.p 60000 [], .pv (.sc .i keep), .pv (.sc .i torn)] [(60000, .box (.st [.o 60001, .o 60002, .o 60003, .pv (.sc .i done), .pv (.sc .b cut), .pv (.sc .i left), .pv (.sc .b dark)])), (60001, .row (.p 128 now) false), (60002, .map sure), (60003, .row (.p 129 writes) false)] Q :=
  Eq.mpr (dev_On_e now sure writes done cut left dark keep torn Q) (have h := (dev_On_q k now sure writes done cut left dark keep torn).symm.trans h; ite_ok h fun hc0 h => cond_ok h (fun h => cond_ok h (fun h => ite_ok h fun hc1 h => ret_ok (Q := Q) (e := dev_On_enc) h hQ) (fun h => ite_ok h fun hc1 h => (dev_On_k1 hQ _) _ _ _ _ _ _ _ _ _ _ _ h)) (fun h => ite_ok h fun hc1 h => ret_ok (Q := Q) (e := dev_On_enc) h hQ))
def dev_On_c : Ans
  | [.p 60000 [], .pv (.sc .i keep), .pv (.sc .i torn)], [(60000, .box (.st [.o 60001, .o 60002, .o 60003, .pv (.sc .i done), .pv (.sc .b cut), .pv (.sc .i left), .pv (.sc .b dark)])), (60001, .row (.p 128 now) false), (60002, .map sure), (60003, .row (.p 129 writes) false)] => some (some (dvW (DV.mk now sure writes done cut left dark)), dev_On_enc (((dvOn (DV.mk now sure writes done cut left dark) keep torn).1, (dvOn (DV.mk now sure writes done cut left dark) keep torn).2.done, (dvOn (DV.mk now sure writes done cut left dark) keep torn).2.cut, (dvOn (DV.mk now sure writes done cut left dark) keep torn).2.left, (dvOn (DV.mk now sure writes done cut left dark) keep torn).2.dark, (dvOn (DV.mk now sure writes done cut left dark) keep torn).2.now, (dvOn (DV.mk now sure writes done cut left dark) keep torn).2.sure, (dvOn (DV.mk now sure writes done cut left dark) keep torn).2.writes)))
  | _, _ => none
theorem dev_On_tok : TblOK Try.prog noG dev_On_T := .cons ⟨by kernel_rfl, dev_off_ok⟩ (.cons ⟨by kernel_rfl, dev_back_ok⟩ (.nil))
theorem dev_On_ok : FnOK Try.prog noG 18 (unW dev_On_c) := by
  refine FnOK.ofC (T := dev_On_T) (nt := 72) (np := 1) (mv := []) (nf := false) (hs := dev_On_hs) (fn := Try.f18) (body := dev_On_b) dev_On_tok (by kernel_rfl) (by kernel_rfl) (by kernel_rfl) (by kernel_rfl) (c := dev_On_c) (lv := dev_On_lv) ?_
  intro xs mem p out h hp
  unfold dev_On_c at h
  split at h
  · cases h
    obtain ⟨k, hk⟩ := dev_On_specD _ _ _ _ _ _ _ _ _ hp.1 hp.2
    exact dev_On_w _ _ _ _ _ _ _ _ _ hk rfl
  · cases h
end
end Go.Proofs.Ytgecpcajmhgboaa.M

namespace Go.Proofs.Ytgecpcajmhgboaa.M
open Go
noncomputable section
set_option maxRecDepth 100000
set_option maxHeartbeats 0
noncomputable def dev_Read_T : Tbl := [(26, [true], dev_off_c), (27, [true, false], dev_state_c)]
noncomputable def dev_Read_C : CfgW := mkC Try.prog noG dev_Read_T 24 1 true
def dev_Read_lv : Nat → List Nat := fun i => bif Nat.beq i 6000000 then [4] else []
noncomputable abbrev dev_Read_b : Code := Try.f15.body.getD .skip
noncomputable abbrev dev_Read_r : List ResultVar := Try.f15.results.toList
def dev_Read_hs : List Nat := [0]

def dev_Read_enc (r : List UInt8 × Int × Int × Bool × Int × Bool × List PV × (List (PV × PV)) × List PV) : CallOut := ⟨.tup [.pv (.sl .u8 r.1), .pv (.sc .i r.2.1)], [(60000, .box (.st [.o 60001, .o 60002, .o 60003, .pv (.sc .i r.2.2.1), .pv (.sc .b r.2.2.2.1), .pv (.sc .i r.2.2.2.2.1), .pv (.sc .b r.2.2.2.2.2.1)])), (60001, .row (.p 128 r.2.2.2.2.2.2.1) false), (60002, .map r.2.2.2.2.2.2.2.1), (60003, .row (.p 129 r.2.2.2.2.2.2.2.2) false)], false, [(0, .p 60000 [])]⟩
theorem dev_Read_e (now : List PV) (sure : List (PV × PV)) (writes : List PV) (done : Int) (cut : Bool) (left : Int) (dark : Bool) (n : Int) (Q : CallOut → Prop) : evalFnP dev_Read_C dev_Read_lv dev_Read_r dev_Read_hs dev_Read_b [.p 60000 [], .pv (.sc .i n)] [(60000, .box (.st [.o 60001, .o 60002, .o 60003, .pv (.sc .i done), .pv (.sc .b cut), .pv (.sc .i left), .pv (.sc .b dark)])), (60001, .row (.p 128 now) false), (60002, .map sure), (60003, .row (.p 129 writes) false)] Q =
    (((devB now sure writes) = true) ∧ (((devB now sure writes) = true) ∧ (condP (!(decide ((stateV now dark n) = (0 : Int)))) (Q (dev_Read_enc (([] : List UInt8), (stateV now dark n), done, cut, left, dark, now, sure, writes))) ((((0 : Int) ≤ n) ∧ (n < (((List.length now) : Nat) : Int))) ∧ (((TY.chk (TY.arr EK.u8 (128 : Nat)) (RC.get (RC.p (128 : Nat) now) ([(PE.i (Int.toNat n))] : List PE))) = true) ∧ ((((0 : Int) ≤ (0 : Int)) ∧ (((0 : Int) ≤ (128 : Int)) ∧ ((128 : Int) ≤ (((128 : Nat) : Nat) : Int)))) ∧ (Q (dev_Read_enc ((List.take ((Int.toNat (128 : Int)) - (Int.toNat (0 : Int))) (List.drop (Int.toNat (0 : Int)) (Vector.toList (PV.vecv EK.u8 (128 : Nat) (RC.get (RC.p (128 : Nat) now) ([(PE.i (Int.toNat n))] : List PE)))))), (0 : Int), done, cut, left, dark, now, sure, writes))))))))) := by kernel_rfl
theorem dev_Read_w (now : List PV) (sure : List (PV × PV)) (writes : List PV) (done : Int) (cut : Bool) (left : Int) (dark : Bool) (n : Int) {r} {Q : CallOut → Prop} (h : dev_Read now sure writes done cut left dark n = some r) (hQ : Q (dev_Read_enc r)) : evalFnP dev_Read_C dev_Read_lv dev_Read_r dev_Read_hs dev_Read_b [.p 60000 [], .pv (.sc .i n)] [(60000, .box (.st [.o 60001, .o 60002, .o 60003, .pv (.sc .i done), .pv (.sc .b cut), .pv (.sc .i left), .pv (.sc .b dark)])), (60001, .row (.p 128 now) false), (60002, .map sure), (60003, .row (.p 129 writes) false)] Q :=
  Eq.mpr (dev_Read_e now sure writes done cut left dark n Q) (have h := (dev_Read_q now sure writes done cut left dark n).symm.trans h; ite_ok h fun hc0 h => ⟨hc0, cond_ok h (fun h => ret_ok (Q := Q) (e := dev_Read_enc) h hQ) (fun h => ite_ok h fun hc1 h => ite_ok h fun hc2 h => ⟨by decide +kernel, ret_ok (Q := Q) (e := dev_Read_enc) h hQ⟩)⟩)
def dev_Read_c : Ans
  | [.p 60000 [], .pv (.sc .i n)], [(60000, .box (.st [.o 60001, .o 60002, .o 60003, .pv (.sc .i done), .pv (.sc .b cut), .pv (.sc .i left), .pv (.sc .b dark)])), (60001, .row (.p 128 now) false), (60002, .map sure), (60003, .row (.p 129 writes) false)] => some (some (dvC (DV.mk now sure writes done cut left dark)), dev_Read_enc (((dvRead (DV.mk now sure writes done cut left dark) n).1, (dvRead (DV.mk now sure writes done cut left dark) n).2, done, cut, left, dark, now, sure, writes)))
  | _, _ => none
theorem dev_Read_tok : TblOK Try.prog noG dev_Read_T := .cons ⟨by kernel_rfl, dev_off_ok⟩ (.cons ⟨by kernel_rfl, dev_state_ok⟩ (.nil))
theorem dev_Read_ok : FnOK Try.prog noG 15 (unW dev_Read_c) := by
  refine FnOK.ofC (T := dev_Read_T) (nt := 24) (np := 1) (mv := []) (nf := true) (hs := dev_Read_hs) (fn := Try.f15) (body := dev_Read_b) dev_Read_tok (by kernel_rfl) (by kernel_rfl) (by kernel_rfl) (by kernel_rfl) (c := dev_Read_c) (lv := dev_Read_lv) ?_
  intro xs mem p out h hp
  unfold dev_Read_c at h
  split at h
  · cases h
    exact dev_Read_w _ _ _ _ _ _ _ _ (dev_Read_specD _ _ _ _ _ _ _ _ hp) rfl
  · cases h
end
end Go.Proofs.Ytgecpcajmhgboaa.M
