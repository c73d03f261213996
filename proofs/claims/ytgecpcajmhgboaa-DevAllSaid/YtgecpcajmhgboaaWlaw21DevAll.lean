/- The statement of DevAll: for every input the law returns true, and each argument reads behind the call as it read before. No condition. -/
import Derived.KernelRfl
import Derived.Test.YtgecpcajmhgboaaProg
import Derived.Test.YtgecpcajmhgboaaRows
import Derived.WalkKit
import Derived.ProofKit
import Derived.Handy
import Derived.Lay
import Derived.SizedLaws
import Derived.SevenTiedAt
import Derived.Test.YtgecpcajmhgboaaLe
import Derived.Test.YtgecpcajmhgboaaFdev
import Derived.Test.YtgecpcajmhgboaaFlaw21
import Derived.Test.YtgecpcajmhgboaaFref00
import Derived.Test.YtgecpcajmhgboaaSwords
import Derived.Test.YtgecpcajmhgboaaSdevS
import Derived.Test.YtgecpcajmhgboaaSdevT
import Derived.Test.YtgecpcajmhgboaaSdevA
import Derived.Test.YtgecpcajmhgboaaSdevR
import Derived.Test.YtgecpcajmhgboaaSdevD
import Derived.Test.YtgecpcajmhgboaaSdevL
import Derived.Test.YtgecpcajmhgboaaSdevF
set_option linter.unusedVariables false
set_option linter.unusedSimpArgs false
set_option autoImplicit false
namespace Go.Proofs.Ytgecpcajmhgboaa.M
open Go
noncomputable section
/-- the loop 0 of moneyer/moneyerlaw21.DevAll -/
def law21_DevAll_h0 : Nat → (List PV) → Bool → Int → Int → Int → Bool → Int → Bool → (List PV) → (List (PV × PV)) → (List PV) → Option (Bool)
  | 0, _, _, _, _, _, _, _, _, _, _, _ => none
  | k + 1, l, all, n, i, d, d1, d2, d3, dm, dm', dm'' => bif eqb (decide (i < (((List.length l) : Nat) : Int))) true then (bif bif true then (decide (i < (30 : Int))) else false then (if (((0 : Int) ≤ i) ∧ (i < (((List.length l) : Nat) : Int))) ∧ ((TY.chk (TY.st ([(TY.sc EK.i), (TY.sc EK.i), (TY.sl EK.u8), (TY.sc EK.u8), (TY.sc EK.i), (TY.sc EK.i)] : List TY)) (List.getD l (Int.toNat i) PV.nilp)) = true) then
          bif eqb (decide ((PV.scv EK.i (PV.fld (0 : Nat) (List.getD l (Int.toNat i) PV.nilp))) = (0 : Int))) true then (if dvW (DV.mk dm dm' dm'' d d1 d2 d3) then
              bif bif true then (decide ((Prod.fst (dvWrite (DV.mk dm dm' dm'' d d1 d2 d3) (PV.scv EK.i (PV.fld (1 : Nat) (List.getD l (Int.toNat i) PV.nilp))) (actB (PV.slv EK.u8 (PV.fld (2 : Nat) (List.getD l (Int.toNat i) PV.nilp))) (PV.scv EK.u8 (PV.fld (3 : Nat) (List.getD l (Int.toNat i) PV.nilp)))))) = (0 : Int))) else false then (law21_DevAll_h0 k l all (w64 (n + (1 : Int))) (w64 (i + (1 : Int))) (DV.done (Prod.snd (dvWrite (DV.mk dm dm' dm'' d d1 d2 d3) (PV.scv EK.i (PV.fld (1 : Nat) (List.getD l (Int.toNat i) PV.nilp))) (actB (PV.slv EK.u8 (PV.fld (2 : Nat) (List.getD l (Int.toNat i) PV.nilp))) (PV.scv EK.u8 (PV.fld (3 : Nat) (List.getD l (Int.toNat i) PV.nilp))))))) (DV.cut (Prod.snd (dvWrite (DV.mk dm dm' dm'' d d1 d2 d3) (PV.scv EK.i (PV.fld (1 : Nat) (List.getD l (Int.toNat i) PV.nilp))) (actB (PV.slv EK.u8 (PV.fld (2 : Nat) (List.getD l (Int.toNat i) PV.nilp))) (PV.scv EK.u8 (PV.fld (3 : Nat) (List.getD l (Int.toNat i) PV.nilp))))))) (DV.left (Prod.snd (dvWrite (DV.mk dm dm' dm'' d d1 d2 d3) (PV.scv EK.i (PV.fld (1 : Nat) (List.getD l (Int.toNat i) PV.nilp))) (actB (PV.slv EK.u8 (PV.fld (2 : Nat) (List.getD l (Int.toNat i) PV.nilp))) (PV.scv EK.u8 (PV.fld (3 : Nat) (List.getD l (Int.toNat i) PV.nilp))))))) (DV.dark (Prod.snd (dvWrite (DV.mk dm dm' dm'' d d1 d2 d3) (PV.scv EK.i (PV.fld (1 : Nat) (List.getD l (Int.toNat i) PV.nilp))) (actB (PV.slv EK.u8 (PV.fld (2 : Nat) (List.getD l (Int.toNat i) PV.nilp))) (PV.scv EK.u8 (PV.fld (3 : Nat) (List.getD l (Int.toNat i) PV.nilp))))))) (DV.now (Prod.snd (dvWrite (DV.mk dm dm' dm'' d d1 d2 d3) (PV.scv EK.i (PV.fld (1 : Nat) (List.getD l (Int.toNat i) PV.nilp))) (actB (PV.slv EK.u8 (PV.fld (2 : Nat) (List.getD l (Int.toNat i) PV.nilp))) (PV.scv EK.u8 (PV.fld (3 : Nat) (List.getD l (Int.toNat i) PV.nilp))))))) (DV.sure (Prod.snd (dvWrite (DV.mk dm dm' dm'' d d1 d2 d3) (PV.scv EK.i (PV.fld (1 : Nat) (List.getD l (Int.toNat i) PV.nilp))) (actB (PV.slv EK.u8 (PV.fld (2 : Nat) (List.getD l (Int.toNat i) PV.nilp))) (PV.scv EK.u8 (PV.fld (3 : Nat) (List.getD l (Int.toNat i) PV.nilp))))))) (DV.writes (Prod.snd (dvWrite (DV.mk dm dm' dm'' d d1 d2 d3) (PV.scv EK.i (PV.fld (1 : Nat) (List.getD l (Int.toNat i) PV.nilp))) (actB (PV.slv EK.u8 (PV.fld (2 : Nat) (List.getD l (Int.toNat i) PV.nilp))) (PV.scv EK.u8 (PV.fld (3 : Nat) (List.getD l (Int.toNat i) PV.nilp))))))))
                else (law21_DevAll_h0 k l all n (w64 (i + (1 : Int))) (DV.done (Prod.snd (dvWrite (DV.mk dm dm' dm'' d d1 d2 d3) (PV.scv EK.i (PV.fld (1 : Nat) (List.getD l (Int.toNat i) PV.nilp))) (actB (PV.slv EK.u8 (PV.fld (2 : Nat) (List.getD l (Int.toNat i) PV.nilp))) (PV.scv EK.u8 (PV.fld (3 : Nat) (List.getD l (Int.toNat i) PV.nilp))))))) (DV.cut (Prod.snd (dvWrite (DV.mk dm dm' dm'' d d1 d2 d3) (PV.scv EK.i (PV.fld (1 : Nat) (List.getD l (Int.toNat i) PV.nilp))) (actB (PV.slv EK.u8 (PV.fld (2 : Nat) (List.getD l (Int.toNat i) PV.nilp))) (PV.scv EK.u8 (PV.fld (3 : Nat) (List.getD l (Int.toNat i) PV.nilp))))))) (DV.left (Prod.snd (dvWrite (DV.mk dm dm' dm'' d d1 d2 d3) (PV.scv EK.i (PV.fld (1 : Nat) (List.getD l (Int.toNat i) PV.nilp))) (actB (PV.slv EK.u8 (PV.fld (2 : Nat) (List.getD l (Int.toNat i) PV.nilp))) (PV.scv EK.u8 (PV.fld (3 : Nat) (List.getD l (Int.toNat i) PV.nilp))))))) (DV.dark (Prod.snd (dvWrite (DV.mk dm dm' dm'' d d1 d2 d3) (PV.scv EK.i (PV.fld (1 : Nat) (List.getD l (Int.toNat i) PV.nilp))) (actB (PV.slv EK.u8 (PV.fld (2 : Nat) (List.getD l (Int.toNat i) PV.nilp))) (PV.scv EK.u8 (PV.fld (3 : Nat) (List.getD l (Int.toNat i) PV.nilp))))))) (DV.now (Prod.snd (dvWrite (DV.mk dm dm' dm'' d d1 d2 d3) (PV.scv EK.i (PV.fld (1 : Nat) (List.getD l (Int.toNat i) PV.nilp))) (actB (PV.slv EK.u8 (PV.fld (2 : Nat) (List.getD l (Int.toNat i) PV.nilp))) (PV.scv EK.u8 (PV.fld (3 : Nat) (List.getD l (Int.toNat i) PV.nilp))))))) (DV.sure (Prod.snd (dvWrite (DV.mk dm dm' dm'' d d1 d2 d3) (PV.scv EK.i (PV.fld (1 : Nat) (List.getD l (Int.toNat i) PV.nilp))) (actB (PV.slv EK.u8 (PV.fld (2 : Nat) (List.getD l (Int.toNat i) PV.nilp))) (PV.scv EK.u8 (PV.fld (3 : Nat) (List.getD l (Int.toNat i) PV.nilp))))))) (DV.writes (Prod.snd (dvWrite (DV.mk dm dm' dm'' d d1 d2 d3) (PV.scv EK.i (PV.fld (1 : Nat) (List.getD l (Int.toNat i) PV.nilp))) (actB (PV.slv EK.u8 (PV.fld (2 : Nat) (List.getD l (Int.toNat i) PV.nilp))) (PV.scv EK.u8 (PV.fld (3 : Nat) (List.getD l (Int.toNat i) PV.nilp))))))))
            else none)
            else (law21_DevAll_h0 k l all n (w64 (i + (1 : Int))) d d1 d2 d3 dm dm' dm'')
        else none)
        else (if dvC (DV.mk dm dm' dm'' d d1 d2 d3) then
          bif !all then (if dvW (DV.mk dm dm' dm'' d d1 d2 d3) then
              bif eqb (decide ((Prod.fst (dvOn (DV.mk dm dm' dm'' d d1 d2 d3) (0 : Int) (0 : Int))) = (0 : Int))) true then (if dvC (Prod.snd (dvOn (DV.mk dm dm' dm'' d d1 d2 d3) (0 : Int) (0 : Int))) then
                  if (List.length (dvImage (Prod.snd (dvOn (DV.mk dm dm' dm'' d d1 d2 d3) (0 : Int) (0 : Int))))) ≤ (1152921504606846976 : Nat) then
                    bif eqb (bif true then (decide ((dvImage (Prod.snd (dvOn (DV.mk dm dm' dm'' d d1 d2 d3) (0 : Int) (0 : Int)))) = (List.replicate (2048 : Nat) (0 : UInt8)))) else false) true then (some true)
                      else (some false)
                  else none
                else none)
                else (some false)
            else none)
            else (if dvW (DV.mk dm dm' dm'' d d1 d2 d3) then
              bif eqb (decide ((Prod.fst (dvOn (DV.mk dm dm' dm'' d d1 d2 d3) n (0 : Int))) = (0 : Int))) true then (if (devB (DV.now (Prod.snd (dvOn (DV.mk dm dm' dm'' d d1 d2 d3) n (0 : Int)))) (DV.sure (Prod.snd (dvOn (DV.mk dm dm' dm'' d d1 d2 d3) n (0 : Int)))) (DV.writes (Prod.snd (dvOn (DV.mk dm dm' dm'' d d1 d2 d3) n (0 : Int))))) = true then
                  bif eqb (bif true then (decide ((DV.done (Prod.snd (dvOn (DV.mk dm dm' dm'' d d1 d2 d3) n (0 : Int)))) = n)) else false) true then (if dvC (Prod.snd (dvOn (DV.mk dm dm' dm'' d d1 d2 d3) n (0 : Int))) then
                      if (List.length (dvImage (Prod.snd (dvOn (DV.mk dm dm' dm'' d d1 d2 d3) n (0 : Int))))) ≤ (1152921504606846976 : Nat) then
                        bif eqb (bif true then (decide ((dvImage (Prod.snd (dvOn (DV.mk dm dm' dm'' d d1 d2 d3) n (0 : Int)))) = (dvImage (DV.mk dm dm' dm'' d d1 d2 d3)))) else false) true then (some true)
                          else (some false)
                      else none
                    else none)
                    else (some false)
                else none)
                else (some false)
            else none)
        else none))
      else (if dvC (DV.mk dm dm' dm'' d d1 d2 d3) then
        bif !all then (if dvW (DV.mk dm dm' dm'' d d1 d2 d3) then
            bif eqb (decide ((Prod.fst (dvOn (DV.mk dm dm' dm'' d d1 d2 d3) (0 : Int) (0 : Int))) = (0 : Int))) true then (if dvC (Prod.snd (dvOn (DV.mk dm dm' dm'' d d1 d2 d3) (0 : Int) (0 : Int))) then
                if (List.length (dvImage (Prod.snd (dvOn (DV.mk dm dm' dm'' d d1 d2 d3) (0 : Int) (0 : Int))))) ≤ (1152921504606846976 : Nat) then
                  bif eqb (bif true then (decide ((dvImage (Prod.snd (dvOn (DV.mk dm dm' dm'' d d1 d2 d3) (0 : Int) (0 : Int)))) = (List.replicate (2048 : Nat) (0 : UInt8)))) else false) true then (some true)
                    else (some false)
                else none
              else none)
              else (some false)
          else none)
          else (if dvW (DV.mk dm dm' dm'' d d1 d2 d3) then
            bif eqb (decide ((Prod.fst (dvOn (DV.mk dm dm' dm'' d d1 d2 d3) n (0 : Int))) = (0 : Int))) true then (if (devB (DV.now (Prod.snd (dvOn (DV.mk dm dm' dm'' d d1 d2 d3) n (0 : Int)))) (DV.sure (Prod.snd (dvOn (DV.mk dm dm' dm'' d d1 d2 d3) n (0 : Int)))) (DV.writes (Prod.snd (dvOn (DV.mk dm dm' dm'' d d1 d2 d3) n (0 : Int))))) = true then
                bif eqb (bif true then (decide ((DV.done (Prod.snd (dvOn (DV.mk dm dm' dm'' d d1 d2 d3) n (0 : Int)))) = n)) else false) true then (if dvC (Prod.snd (dvOn (DV.mk dm dm' dm'' d d1 d2 d3) n (0 : Int))) then
                    if (List.length (dvImage (Prod.snd (dvOn (DV.mk dm dm' dm'' d d1 d2 d3) n (0 : Int))))) ≤ (1152921504606846976 : Nat) then
                      bif eqb (bif true then (decide ((dvImage (Prod.snd (dvOn (DV.mk dm dm' dm'' d d1 d2 d3) n (0 : Int)))) = (dvImage (DV.mk dm dm' dm'' d d1 d2 d3)))) else false) true then (some true)
                        else (some false)
                    else none
                  else none)
                  else (some false)
              else none)
              else (some false)
          else none)
      else none)
theorem law21_DevAll_h0_q (k : Nat) (l : List PV) (all : Bool) (n : Int) (i : Int) (d : Int) (d1 : Bool) (d2 : Int) (d3 : Bool) (dm : List PV) (dm' : List (PV × PV)) (dm'' : List PV) : law21_DevAll_h0 (k + 1) l all n i d d1 d2 d3 dm dm' dm'' =
  (bif eqb (decide (i < (((List.length l) : Nat) : Int))) true then (bif bif true then (decide (i < (30 : Int))) else false then (if (((0 : Int) ≤ i) ∧ (i < (((List.length l) : Nat) : Int))) ∧ ((TY.chk (TY.st ([(TY.sc EK.i), (TY.sc EK.i), (TY.sl EK.u8), (TY.sc EK.u8), (TY.sc EK.i), (TY.sc EK.i)] : List TY)) (List.getD l (Int.toNat i) PV.nilp)) = true) then
          bif eqb (decide ((PV.scv EK.i (PV.fld (0 : Nat) (List.getD l (Int.toNat i) PV.nilp))) = (0 : Int))) true then (if dvW (DV.mk dm dm' dm'' d d1 d2 d3) then
              bif bif true then (decide ((Prod.fst (dvWrite (DV.mk dm dm' dm'' d d1 d2 d3) (PV.scv EK.i (PV.fld (1 : Nat) (List.getD l (Int.toNat i) PV.nilp))) (actB (PV.slv EK.u8 (PV.fld (2 : Nat) (List.getD l (Int.toNat i) PV.nilp))) (PV.scv EK.u8 (PV.fld (3 : Nat) (List.getD l (Int.toNat i) PV.nilp)))))) = (0 : Int))) else false then (law21_DevAll_h0 k l all (w64 (n + (1 : Int))) (w64 (i + (1 : Int))) (DV.done (Prod.snd (dvWrite (DV.mk dm dm' dm'' d d1 d2 d3) (PV.scv EK.i (PV.fld (1 : Nat) (List.getD l (Int.toNat i) PV.nilp))) (actB (PV.slv EK.u8 (PV.fld (2 : Nat) (List.getD l (Int.toNat i) PV.nilp))) (PV.scv EK.u8 (PV.fld (3 : Nat) (List.getD l (Int.toNat i) PV.nilp))))))) (DV.cut (Prod.snd (dvWrite (DV.mk dm dm' dm'' d d1 d2 d3) (PV.scv EK.i (PV.fld (1 : Nat) (List.getD l (Int.toNat i) PV.nilp))) (actB (PV.slv EK.u8 (PV.fld (2 : Nat) (List.getD l (Int.toNat i) PV.nilp))) (PV.scv EK.u8 (PV.fld (3 : Nat) (List.getD l (Int.toNat i) PV.nilp))))))) (DV.left (Prod.snd (dvWrite (DV.mk dm dm' dm'' d d1 d2 d3) (PV.scv EK.i (PV.fld (1 : Nat) (List.getD l (Int.toNat i) PV.nilp))) (actB (PV.slv EK.u8 (PV.fld (2 : Nat) (List.getD l (Int.toNat i) PV.nilp))) (PV.scv EK.u8 (PV.fld (3 : Nat) (List.getD l (Int.toNat i) PV.nilp))))))) (DV.dark (Prod.snd (dvWrite (DV.mk dm dm' dm'' d d1 d2 d3) (PV.scv EK.i (PV.fld (1 : Nat) (List.getD l (Int.toNat i) PV.nilp))) (actB (PV.slv EK.u8 (PV.fld (2 : Nat) (List.getD l (Int.toNat i) PV.nilp))) (PV.scv EK.u8 (PV.fld (3 : Nat) (List.getD l (Int.toNat i) PV.nilp))))))) (DV.now (Prod.snd (dvWrite (DV.mk dm dm' dm'' d d1 d2 d3) (PV.scv EK.i (PV.fld (1 : Nat) (List.getD l (Int.toNat i) PV.nilp))) (actB (PV.slv EK.u8 (PV.fld (2 : Nat) (List.getD l (Int.toNat i) PV.nilp))) (PV.scv EK.u8 (PV.fld (3 : Nat) (List.getD l (Int.toNat i) PV.nilp))))))) (DV.sure (Prod.snd (dvWrite (DV.mk dm dm' dm'' d d1 d2 d3) (PV.scv EK.i (PV.fld (1 : Nat) (List.getD l (Int.toNat i) PV.nilp))) (actB (PV.slv EK.u8 (PV.fld (2 : Nat) (List.getD l (Int.toNat i) PV.nilp))) (PV.scv EK.u8 (PV.fld (3 : Nat) (List.getD l (Int.toNat i) PV.nilp))))))) (DV.writes (Prod.snd (dvWrite (DV.mk dm dm' dm'' d d1 d2 d3) (PV.scv EK.i (PV.fld (1 : Nat) (List.getD l (Int.toNat i) PV.nilp))) (actB (PV.slv EK.u8 (PV.fld (2 : Nat) (List.getD l (Int.toNat i) PV.nilp))) (PV.scv EK.u8 (PV.fld (3 : Nat) (List.getD l (Int.toNat i) PV.nilp))))))))
                else (law21_DevAll_h0 k l all n (w64 (i + (1 : Int))) (DV.done (Prod.snd (dvWrite (DV.mk dm dm' dm'' d d1 d2 d3) (PV.scv EK.i (PV.fld (1 : Nat) (List.getD l (Int.toNat i) PV.nilp))) (actB (PV.slv EK.u8 (PV.fld (2 : Nat) (List.getD l (Int.toNat i) PV.nilp))) (PV.scv EK.u8 (PV.fld (3 : Nat) (List.getD l (Int.toNat i) PV.nilp))))))) (DV.cut (Prod.snd (dvWrite (DV.mk dm dm' dm'' d d1 d2 d3) (PV.scv EK.i (PV.fld (1 : Nat) (List.getD l (Int.toNat i) PV.nilp))) (actB (PV.slv EK.u8 (PV.fld (2 : Nat) (List.getD l (Int.toNat i) PV.nilp))) (PV.scv EK.u8 (PV.fld (3 : Nat) (List.getD l (Int.toNat i) PV.nilp))))))) (DV.left (Prod.snd (dvWrite (DV.mk dm dm' dm'' d d1 d2 d3) (PV.scv EK.i (PV.fld (1 : Nat) (List.getD l (Int.toNat i) PV.nilp))) (actB (PV.slv EK.u8 (PV.fld (2 : Nat) (List.getD l (Int.toNat i) PV.nilp))) (PV.scv EK.u8 (PV.fld (3 : Nat) (List.getD l (Int.toNat i) PV.nilp))))))) (DV.dark (Prod.snd (dvWrite (DV.mk dm dm' dm'' d d1 d2 d3) (PV.scv EK.i (PV.fld (1 : Nat) (List.getD l (Int.toNat i) PV.nilp))) (actB (PV.slv EK.u8 (PV.fld (2 : Nat) (List.getD l (Int.toNat i) PV.nilp))) (PV.scv EK.u8 (PV.fld (3 : Nat) (List.getD l (Int.toNat i) PV.nilp))))))) (DV.now (Prod.snd (dvWrite (DV.mk dm dm' dm'' d d1 d2 d3) (PV.scv EK.i (PV.fld (1 : Nat) (List.getD l (Int.toNat i) PV.nilp))) (actB (PV.slv EK.u8 (PV.fld (2 : Nat) (List.getD l (Int.toNat i) PV.nilp))) (PV.scv EK.u8 (PV.fld (3 : Nat) (List.getD l (Int.toNat i) PV.nilp))))))) (DV.sure (Prod.snd (dvWrite (DV.mk dm dm' dm'' d d1 d2 d3) (PV.scv EK.i (PV.fld (1 : Nat) (List.getD l (Int.toNat i) PV.nilp))) (actB (PV.slv EK.u8 (PV.fld (2 : Nat) (List.getD l (Int.toNat i) PV.nilp))) (PV.scv EK.u8 (PV.fld (3 : Nat) (List.getD l (Int.toNat i) PV.nilp))))))) (DV.writes (Prod.snd (dvWrite (DV.mk dm dm' dm'' d d1 d2 d3) (PV.scv EK.i (PV.fld (1 : Nat) (List.getD l (Int.toNat i) PV.nilp))) (actB (PV.slv EK.u8 (PV.fld (2 : Nat) (List.getD l (Int.toNat i) PV.nilp))) (PV.scv EK.u8 (PV.fld (3 : Nat) (List.getD l (Int.toNat i) PV.nilp))))))))
            else none)
            else (law21_DevAll_h0 k l all n (w64 (i + (1 : Int))) d d1 d2 d3 dm dm' dm'')
        else none)
        else (if dvC (DV.mk dm dm' dm'' d d1 d2 d3) then
          bif !all then (if dvW (DV.mk dm dm' dm'' d d1 d2 d3) then
              bif eqb (decide ((Prod.fst (dvOn (DV.mk dm dm' dm'' d d1 d2 d3) (0 : Int) (0 : Int))) = (0 : Int))) true then (if dvC (Prod.snd (dvOn (DV.mk dm dm' dm'' d d1 d2 d3) (0 : Int) (0 : Int))) then
                  if (List.length (dvImage (Prod.snd (dvOn (DV.mk dm dm' dm'' d d1 d2 d3) (0 : Int) (0 : Int))))) ≤ (1152921504606846976 : Nat) then
                    bif eqb (bif true then (decide ((dvImage (Prod.snd (dvOn (DV.mk dm dm' dm'' d d1 d2 d3) (0 : Int) (0 : Int)))) = (List.replicate (2048 : Nat) (0 : UInt8)))) else false) true then (some true)
                      else (some false)
                  else none
                else none)
                else (some false)
            else none)
            else (if dvW (DV.mk dm dm' dm'' d d1 d2 d3) then
              bif eqb (decide ((Prod.fst (dvOn (DV.mk dm dm' dm'' d d1 d2 d3) n (0 : Int))) = (0 : Int))) true then (if (devB (DV.now (Prod.snd (dvOn (DV.mk dm dm' dm'' d d1 d2 d3) n (0 : Int)))) (DV.sure (Prod.snd (dvOn (DV.mk dm dm' dm'' d d1 d2 d3) n (0 : Int)))) (DV.writes (Prod.snd (dvOn (DV.mk dm dm' dm'' d d1 d2 d3) n (0 : Int))))) = true then
                  bif eqb (bif true then (decide ((DV.done (Prod.snd (dvOn (DV.mk dm dm' dm'' d d1 d2 d3) n (0 : Int)))) = n)) else false) true then (if dvC (Prod.snd (dvOn (DV.mk dm dm' dm'' d d1 d2 d3) n (0 : Int))) then
                      if (List.length (dvImage (Prod.snd (dvOn (DV.mk dm dm' dm'' d d1 d2 d3) n (0 : Int))))) ≤ (1152921504606846976 : Nat) then
                        bif eqb (bif true then (decide ((dvImage (Prod.snd (dvOn (DV.mk dm dm' dm'' d d1 d2 d3) n (0 : Int)))) = (dvImage (DV.mk dm dm' dm'' d d1 d2 d3)))) else false) true then (some true)
                          else (some false)
                      else none
                    else none)
                    else (some false)
                else none)
                else (some false)
            else none)
        else none))
      else (if dvC (DV.mk dm dm' dm'' d d1 d2 d3) then
        bif !all then (if dvW (DV.mk dm dm' dm'' d d1 d2 d3) then
            bif eqb (decide ((Prod.fst (dvOn (DV.mk dm dm' dm'' d d1 d2 d3) (0 : Int) (0 : Int))) = (0 : Int))) true then (if dvC (Prod.snd (dvOn (DV.mk dm dm' dm'' d d1 d2 d3) (0 : Int) (0 : Int))) then
                if (List.length (dvImage (Prod.snd (dvOn (DV.mk dm dm' dm'' d d1 d2 d3) (0 : Int) (0 : Int))))) ≤ (1152921504606846976 : Nat) then
                  bif eqb (bif true then (decide ((dvImage (Prod.snd (dvOn (DV.mk dm dm' dm'' d d1 d2 d3) (0 : Int) (0 : Int)))) = (List.replicate (2048 : Nat) (0 : UInt8)))) else false) true then (some true)
                    else (some false)
                else none
              else none)
              else (some false)
          else none)
          else (if dvW (DV.mk dm dm' dm'' d d1 d2 d3) then
            bif eqb (decide ((Prod.fst (dvOn (DV.mk dm dm' dm'' d d1 d2 d3) n (0 : Int))) = (0 : Int))) true then (if (devB (DV.now (Prod.snd (dvOn (DV.mk dm dm' dm'' d d1 d2 d3) n (0 : Int)))) (DV.sure (Prod.snd (dvOn (DV.mk dm dm' dm'' d d1 d2 d3) n (0 : Int)))) (DV.writes (Prod.snd (dvOn (DV.mk dm dm' dm'' d d1 d2 d3) n (0 : Int))))) = true then
                bif eqb (bif true then (decide ((DV.done (Prod.snd (dvOn (DV.mk dm dm' dm'' d d1 d2 d3) n (0 : Int)))) = n)) else false) true then (if dvC (Prod.snd (dvOn (DV.mk dm dm' dm'' d d1 d2 d3) n (0 : Int))) then
                    if (List.length (dvImage (Prod.snd (dvOn (DV.mk dm dm' dm'' d d1 d2 d3) n (0 : Int))))) ≤ (1152921504606846976 : Nat) then
                      bif eqb (bif true then (decide ((dvImage (Prod.snd (dvOn (DV.mk dm dm' dm'' d d1 d2 d3) n (0 : Int)))) = (dvImage (DV.mk dm dm' dm'' d d1 d2 d3)))) else false) true then (some true)
                        else (some false)
                    else none
                  else none)
                  else (some false)
              else none)
              else (some false)
          else none)
      else none)) := by kernel_rfl
/-- moneyer/moneyerlaw21.DevAll -/
def law21_DevAll (k : Nat) (l : List PV) (all : Bool) : Option (Bool) :=
  law21_DevAll_h0 k l all (0 : Int) (0 : Int) (DV.done (dvNew (16 : Int))) (DV.cut (dvNew (16 : Int))) (DV.left (dvNew (16 : Int))) (DV.dark (dvNew (16 : Int))) (DV.now (dvNew (16 : Int))) (DV.sure (dvNew (16 : Int))) (DV.writes (dvNew (16 : Int)))
theorem law21_DevAll_q (k : Nat) (l : List PV) (all : Bool) : law21_DevAll k l all = (law21_DevAll_h0 k l all (0 : Int) (0 : Int) (DV.done (dvNew (16 : Int))) (DV.cut (dvNew (16 : Int))) (DV.left (dvNew (16 : Int))) (DV.dark (dvNew (16 : Int))) (DV.now (dvNew (16 : Int))) (DV.sure (dvNew (16 : Int))) (DV.writes (dvNew (16 : Int)))) := by kernel_rfl
theorem all_fin (k : Nat) (l : List PV) (all : Bool) (n i : Nat) {D : AD} (h : Wr D 30) (hd : D.done = (n : Int)) (hn : D.ws.length = n) (hs : ¬ (i < l.length ∧ i < 30)) :
    law21_DevAll_h0 (k + 1) l all (n : Int) (i : Int) D.conc.done D.conc.cut D.conc.left D.conc.dark D.conc.now D.conc.sure D.conc.writes = some true := by
  have hw := h.ws
  have hbl : D.base.length = 16 := by rw [h.base]; simp
  have e0 : DV.mk D.conc.now D.conc.sure D.conc.writes D.conc.done D.conc.cut D.conc.left D.conc.dark = D.conc := rfl
  have hC : dvC D.conc := AD.dvC h.ok
  have hW : dvW D.conc := AD.dvW h.ok (by omega)
  have e1 : dvOn D.conc 0 0 = (0, (adOn D 0 0).2.conc) := by rw [dvOn_conc h.ok, adOn_eq, if_neg (by omega)]
  have hC1 : dvC (adOn D 0 0).2.conc := AD.dvC (adOn_ok h.ok 0 0)
  have e2 : dvOn D.conc (n : Int) 0 = (0, (adOn D (n : Int) 0).2.conc) := by rw [dvOn_conc h.ok, adOn_eq, if_neg (by omega)]
  have hC2 : dvC (adOn D (n : Int) 0).2.conc := AD.dvC (adOn_ok h.ok _ 0)
  have hB2 : devB (adOn D (n : Int) 0).2.conc.now (adOn D (n : Int) 0).2.conc.sure (adOn D (n : Int) 0).2.conc.writes = true := (AD.devC (adOn_ok h.ok (n : Int) 0)).b
  have i1 : dvImage (adOn D 0 0).2.conc = List.replicate 2048 0 := by
    rw [dvImage_conc (adOn_ok h.ok 0 0), adImage_eq, adOn_eq, if_neg (by omega)]
    show (keptW D.base D.ws 0 0).flatMap Vector.toList = _
    rw [keptW_none _ _ h.ok.ws, h.base, flat_zero]
  have i2 : dvImage (adOn D (n : Int) 0).2.conc = adImage D := by
    rw [dvImage_conc (adOn_ok h.ok _ 0), adImage_eq, adImage_eq, adOn_eq, if_neg (by omega)]
    show (keptW D.base D.ws (Int.toNat (n : Int)) 0).flatMap Vector.toList = _
    rw [keptW_all _ _ _ _ (by omega)]
    unfold AD.now
    rw [h.dark]; rfl
  have i3 : dvImage D.conc = adImage D := dvImage_conc h.ok
  have d2 : (adOn D (n : Int) 0).2.conc.done = (n : Int) := by
    rw [adOn_eq, if_neg (by omega)]
    exact hd
  have hl1 : (List.replicate 2048 (0 : UInt8)).length ≤ 1152921504606846976 := by rw [List.length_replicate]; decide
  have hl2 : (adImage D).length ≤ 1152921504606846976 := by rw [adImage_len]; omega
  rw [law21_DevAll_h0_q, e0]
  simp only [e1, e2, i1, i2, i3, d2, hC, hW, hC1, hC2, hB2, hl1, hl2, if_true, decide_true]
  by_cases h1 : ((i : Nat) : Int) < ((l.length : Nat) : Int)
  · rw [decide_eq_true h1, decide_eq_false (show ¬ ((i : Nat) : Int) < 30 by omega)]
    cases all <;> rfl
  · rw [decide_eq_false h1]
    cases all <;> rfl
theorem all_loop (l : List PV) (hl : actsW l = true) (all : Bool) : ∀ (m i n : Nat) {D : AD}, i + m = 30 → n ≤ i → Wr D i → D.done = (n : Int) → D.ws.length = n →
    law21_DevAll_h0 (m + 1) l all (n : Int) (i : Int) D.conc.done D.conc.cut D.conc.left D.conc.dark D.conc.now D.conc.sure D.conc.writes = some true
  | 0, i, n, D, hm, hni, h, hd, hn => all_fin 0 l all n i (h.mono (by omega)) hd hn (by omega)
  | m + 1, i, n, D, hm, hni, h, hd, hn => by
    by_cases hi : i < l.length
    · have e0 : DV.mk D.conc.now D.conc.sure D.conc.writes D.conc.done D.conc.cut D.conc.left D.conc.dark = D.conc := rfl
      have hW : dvW D.conc := AD.dvW h.ok (by have := h.ws; omega)
      rw [law21_DevAll_h0_q, e0, decide_eq_true (show ((i : Nat) : Int) < ((l.length : Nat) : Int) by omega), decide_eq_true (show ((i : Nat) : Int) < 30 by omega), Int.toNat_natCast]
      simp only [show eqb true true = true from rfl, cond_true]
      rw [if_pos (show ((0 : Int) ≤ ((i : Nat) : Int) ∧ ((i : Nat) : Int) < ((l.length : Nat) : Int)) ∧ TY.chk (TY.st [TY.sc EK.i, TY.sc EK.i, TY.sl EK.u8, TY.sc EK.u8, TY.sc EK.i, TY.sc EK.i]) (List.getD l i PV.nilp) = true from ⟨⟨by omega, by omega⟩, actsW_at hl hi⟩), if_pos hW, w64_id (x := (i : Int) + 1) (by omega) (by omega), w64_id (x := (n : Int) + 1) (by omega) (by omega), show ((i : Nat) : Int) + 1 = ((i + 1 : Nat) : Int) by omega, show ((n : Nat) : Int) + 1 = ((n + 1 : Nat) : Int) by omega]
      by_cases hdo : PV.scv EK.i (PV.fld 0 (List.getD l i PV.nilp)) = 0
      · rw [decide_eq_true hdo, dvWrite_conc h.ok]
        simp only [show eqb true true = true from rfl, cond_true]
        rcases adWrite_un h.cut (PV.scv EK.i (PV.fld 1 (List.getD l i PV.nilp))) (actB (PV.slv EK.u8 (PV.fld 2 (List.getD l i PV.nilp))) (PV.scv EK.u8 (PV.fld 3 (List.getD l i PV.nilp)))) with ⟨hw, hs⟩ | ⟨hw1, hw2⟩
        · rw [hw]
          have hp := h.put hs (secL (actB (PV.slv EK.u8 (PV.fld 2 (List.getD l i PV.nilp))) (PV.scv EK.u8 (PV.fld 3 (List.getD l i PV.nilp)))))
          exact all_loop l hl all m (i + 1) (n + 1) (by omega) (by omega) hp (by show w64 (D.done + 1) = _; rw [hd, w64_id (by omega) (by omega)]; omega) (by show (D.ws ++ [_]).length = _; rw [List.length_append, hn]; rfl)
        · rw [decide_eq_false hw1, hw2]
          simp only [cond_false]
          exact all_loop l hl all m (i + 1) n (by omega) (by omega) (h.mono (by omega)) hd hn
      · rw [decide_eq_false hdo]
        exact all_loop l hl all m (i + 1) n (by omega) (by omega) (h.mono (by omega)) hd hn
    · exact all_fin (m + 1) l all n i (h.mono (by omega)) hd hn (by omega)
theorem law21_DevAll_spec (l : List PV) (all : Bool) (hp : actsW l = true) : ∃ k, law21_DevAll k l all = some true := by
  refine ⟨31, ?_⟩
  rw [law21_DevAll_q, dvNew_eq]
  exact all_loop l hp all 30 0 0 rfl (Nat.le_refl _) wr_new (by rw [adNew_eq]; rfl) (by rw [adNew_eq]; rfl)

end
end Go.Proofs.Ytgecpcajmhgboaa.M

namespace Go.Proofs.Ytgecpcajmhgboaa.M
open Go
noncomputable section
set_option maxRecDepth 100000
set_option maxHeartbeats 0
noncomputable def law21_DevAll_T : Tbl := [(8, [], dev_New_c), (9, [false], law21_bytes_c), (11, [true, false, false], dev_Write_c), (17, [true], dev_Image_c), (18, [true, false, false], dev_On_c), (16, [], ref00_Same_c), (13, [], law21_works_c), (19, [true], dev_Writes_c)]
noncomputable def law21_DevAll_C : CfgW := mkC Try.prog noG law21_DevAll_T 88 0 false
def law21_DevAll_lv : Nat → List Nat := fun i => bif Nat.beq i 0 then [0, 1, 5, 7, 8] else []
noncomputable abbrev law21_DevAll_b : Code := Try.f4.body.getD .skip
noncomputable abbrev law21_DevAll_r : List ResultVar := Try.f4.results.toList
def law21_DevAll_hs : List Nat := []

def law21_DevAll_enc (r : Bool) : CallOut := ⟨.pv (.sc .b r), [], true, []⟩
def law21_DevAll_s0 (l : List PV) (all : Bool) (n : Int) (i : Int) (d : Int) (d1 : Bool) (d2 : Int) (d3 : Bool) (dm : List PV) (dm' : List (PV × PV)) (dm'' : List PV) : St := ⟨[(0, .pv (.sp 6 l)), (1, .pv (.sc .b all)), (5, .p 60000 []), (7, .pv (.sc .i n)), (8, .pv (.sc .i i))], [(60000, .box (.st [.o 60001, .o 60002, .o 60003, .pv (.sc .i d), .pv (.sc .b d1), .pv (.sc .i d2), .pv (.sc .b d3)])), (60001, .row (.p 128 dm) false), (60002, .map dm'), (60003, .row (.p 129 dm'') false)]⟩
theorem law21_DevAll_g0 (l : List PV) (all : Bool) (n : Int) (i : Int) (d : Int) (d1 : Bool) (d2 : Int) (d3 : Bool) (dm : List PV) (dm' : List (PV × PV)) (dm'' : List PV) (Q : CallOut → Prop) : headRound law21_DevAll_C law21_DevAll_lv [true, true, true, true, false, true, false] law21_DevAll_b (law21_DevAll_s0 l all n i d d1 d2 d3 dm dm' dm'') (fnK law21_DevAll_C law21_DevAll_r law21_DevAll_hs Q) =
    (condP (eqb (decide (i < (((List.length l) : Nat) : Int))) true) (condP (bif true then (decide (i < (30 : Int))) else false) (((((0 : Int) ≤ i) ∧ (i < (((List.length l) : Nat) : Int))) ∧ ((TY.chk (TY.st ([(TY.sc EK.i), (TY.sc EK.i), (TY.sl EK.u8), (TY.sc EK.u8), (TY.sc EK.i), (TY.sc EK.i)] : List TY)) (List.getD l (Int.toNat i) PV.nilp)) = true)) ∧ (condP (eqb (decide ((PV.scv EK.i (PV.fld (0 : Nat) (List.getD l (Int.toNat i) PV.nilp))) = (0 : Int))) true) (((((0 : Int) ≤ i) ∧ (i < (((List.length l) : Nat) : Int))) ∧ ((TY.chk (TY.st ([(TY.sc EK.i), (TY.sc EK.i), (TY.sl EK.u8), (TY.sc EK.u8), (TY.sc EK.i), (TY.sc EK.i)] : List TY)) (List.getD l (Int.toNat i) PV.nilp)) = true)) ∧ (((((0 : Int) ≤ i) ∧ (i < (((List.length l) : Nat) : Int))) ∧ ((TY.chk (TY.st ([(TY.sc EK.i), (TY.sc EK.i), (TY.sl EK.u8), (TY.sc EK.u8), (TY.sc EK.i), (TY.sc EK.i)] : List TY)) (List.getD l (Int.toNat i) PV.nilp)) = true)) ∧ ((dvW (DV.mk dm dm' dm'' d d1 d2 d3)) ∧ (condP (bif true then (decide ((Prod.fst (dvWrite (DV.mk dm dm' dm'' d d1 d2 d3) (PV.scv EK.i (PV.fld (1 : Nat) (List.getD l (Int.toNat i) PV.nilp))) (actB (PV.slv EK.u8 (PV.fld (2 : Nat) (List.getD l (Int.toNat i) PV.nilp))) (PV.scv EK.u8 (PV.fld (3 : Nat) (List.getD l (Int.toNat i) PV.nilp)))))) = (0 : Int))) else false) (headP law21_DevAll_C law21_DevAll_lv [true, true, true, true, false, true, false] law21_DevAll_b (law21_DevAll_s0 l all (w64 (n + (1 : Int))) (w64 (i + (1 : Int))) (DV.done (Prod.snd (dvWrite (DV.mk dm dm' dm'' d d1 d2 d3) (PV.scv EK.i (PV.fld (1 : Nat) (List.getD l (Int.toNat i) PV.nilp))) (actB (PV.slv EK.u8 (PV.fld (2 : Nat) (List.getD l (Int.toNat i) PV.nilp))) (PV.scv EK.u8 (PV.fld (3 : Nat) (List.getD l (Int.toNat i) PV.nilp))))))) (DV.cut (Prod.snd (dvWrite (DV.mk dm dm' dm'' d d1 d2 d3) (PV.scv EK.i (PV.fld (1 : Nat) (List.getD l (Int.toNat i) PV.nilp))) (actB (PV.slv EK.u8 (PV.fld (2 : Nat) (List.getD l (Int.toNat i) PV.nilp))) (PV.scv EK.u8 (PV.fld (3 : Nat) (List.getD l (Int.toNat i) PV.nilp))))))) (DV.left (Prod.snd (dvWrite (DV.mk dm dm' dm'' d d1 d2 d3) (PV.scv EK.i (PV.fld (1 : Nat) (List.getD l (Int.toNat i) PV.nilp))) (actB (PV.slv EK.u8 (PV.fld (2 : Nat) (List.getD l (Int.toNat i) PV.nilp))) (PV.scv EK.u8 (PV.fld (3 : Nat) (List.getD l (Int.toNat i) PV.nilp))))))) (DV.dark (Prod.snd (dvWrite (DV.mk dm dm' dm'' d d1 d2 d3) (PV.scv EK.i (PV.fld (1 : Nat) (List.getD l (Int.toNat i) PV.nilp))) (actB (PV.slv EK.u8 (PV.fld (2 : Nat) (List.getD l (Int.toNat i) PV.nilp))) (PV.scv EK.u8 (PV.fld (3 : Nat) (List.getD l (Int.toNat i) PV.nilp))))))) (DV.now (Prod.snd (dvWrite (DV.mk dm dm' dm'' d d1 d2 d3) (PV.scv EK.i (PV.fld (1 : Nat) (List.getD l (Int.toNat i) PV.nilp))) (actB (PV.slv EK.u8 (PV.fld (2 : Nat) (List.getD l (Int.toNat i) PV.nilp))) (PV.scv EK.u8 (PV.fld (3 : Nat) (List.getD l (Int.toNat i) PV.nilp))))))) (DV.sure (Prod.snd (dvWrite (DV.mk dm dm' dm'' d d1 d2 d3) (PV.scv EK.i (PV.fld (1 : Nat) (List.getD l (Int.toNat i) PV.nilp))) (actB (PV.slv EK.u8 (PV.fld (2 : Nat) (List.getD l (Int.toNat i) PV.nilp))) (PV.scv EK.u8 (PV.fld (3 : Nat) (List.getD l (Int.toNat i) PV.nilp))))))) (DV.writes (Prod.snd (dvWrite (DV.mk dm dm' dm'' d d1 d2 d3) (PV.scv EK.i (PV.fld (1 : Nat) (List.getD l (Int.toNat i) PV.nilp))) (actB (PV.slv EK.u8 (PV.fld (2 : Nat) (List.getD l (Int.toNat i) PV.nilp))) (PV.scv EK.u8 (PV.fld (3 : Nat) (List.getD l (Int.toNat i) PV.nilp)))))))) (fnK law21_DevAll_C law21_DevAll_r law21_DevAll_hs Q)) (headP law21_DevAll_C law21_DevAll_lv [true, true, true, true, false, true, false] law21_DevAll_b (law21_DevAll_s0 l all n (w64 (i + (1 : Int))) (DV.done (Prod.snd (dvWrite (DV.mk dm dm' dm'' d d1 d2 d3) (PV.scv EK.i (PV.fld (1 : Nat) (List.getD l (Int.toNat i) PV.nilp))) (actB (PV.slv EK.u8 (PV.fld (2 : Nat) (List.getD l (Int.toNat i) PV.nilp))) (PV.scv EK.u8 (PV.fld (3 : Nat) (List.getD l (Int.toNat i) PV.nilp))))))) (DV.cut (Prod.snd (dvWrite (DV.mk dm dm' dm'' d d1 d2 d3) (PV.scv EK.i (PV.fld (1 : Nat) (List.getD l (Int.toNat i) PV.nilp))) (actB (PV.slv EK.u8 (PV.fld (2 : Nat) (List.getD l (Int.toNat i) PV.nilp))) (PV.scv EK.u8 (PV.fld (3 : Nat) (List.getD l (Int.toNat i) PV.nilp))))))) (DV.left (Prod.snd (dvWrite (DV.mk dm dm' dm'' d d1 d2 d3) (PV.scv EK.i (PV.fld (1 : Nat) (List.getD l (Int.toNat i) PV.nilp))) (actB (PV.slv EK.u8 (PV.fld (2 : Nat) (List.getD l (Int.toNat i) PV.nilp))) (PV.scv EK.u8 (PV.fld (3 : Nat) (List.getD l (Int.toNat i) PV.nilp))))))) (DV.dark (Prod.snd (dvWrite (DV.mk dm dm' dm'' d d1 d2 d3) (PV.scv EK.i (PV.fld (1 : Nat) (List.getD l (Int.toNat i) PV.nilp))) (actB (PV.slv EK.u8 (PV.fld (2 : Nat) (List.getD l (Int.toNat i) PV.nilp))) (PV.scv EK.u8 (PV.fld (3 : Nat) (List.getD l (Int.toNat i) PV.nilp))))))) (DV.now (Prod.snd (dvWrite (DV.mk dm dm' dm'' d d1 d2 d3) (PV.scv EK.i (PV.fld (1 : Nat) (List.getD l (Int.toNat i) PV.nilp))) (actB (PV.slv EK.u8 (PV.fld (2 : Nat) (List.getD l (Int.toNat i) PV.nilp))) (PV.scv EK.u8 (PV.fld (3 : Nat) (List.getD l (Int.toNat i) PV.nilp))))))) (DV.sure (Prod.snd (dvWrite (DV.mk dm dm' dm'' d d1 d2 d3) (PV.scv EK.i (PV.fld (1 : Nat) (List.getD l (Int.toNat i) PV.nilp))) (actB (PV.slv EK.u8 (PV.fld (2 : Nat) (List.getD l (Int.toNat i) PV.nilp))) (PV.scv EK.u8 (PV.fld (3 : Nat) (List.getD l (Int.toNat i) PV.nilp))))))) (DV.writes (Prod.snd (dvWrite (DV.mk dm dm' dm'' d d1 d2 d3) (PV.scv EK.i (PV.fld (1 : Nat) (List.getD l (Int.toNat i) PV.nilp))) (actB (PV.slv EK.u8 (PV.fld (2 : Nat) (List.getD l (Int.toNat i) PV.nilp))) (PV.scv EK.u8 (PV.fld (3 : Nat) (List.getD l (Int.toNat i) PV.nilp)))))))) (fnK law21_DevAll_C law21_DevAll_r law21_DevAll_hs Q)))))) (headP law21_DevAll_C law21_DevAll_lv [true, true, true, true, false, true, false] law21_DevAll_b (law21_DevAll_s0 l all n (w64 (i + (1 : Int))) d d1 d2 d3 dm dm' dm'') (fnK law21_DevAll_C law21_DevAll_r law21_DevAll_hs Q)))) ((dvC (DV.mk dm dm' dm'' d d1 d2 d3)) ∧ (condP (!all) ((dvW (DV.mk dm dm' dm'' d d1 d2 d3)) ∧ (condP (eqb (decide ((Prod.fst (dvOn (DV.mk dm dm' dm'' d d1 d2 d3) (0 : Int) (0 : Int))) = (0 : Int))) true) ((dvC (Prod.snd (dvOn (DV.mk dm dm' dm'' d d1 d2 d3) (0 : Int) (0 : Int)))) ∧ ((((0 : Int) ≤ (2048 : Int)) ∧ (((2048 : Int) ≤ (2048 : Int)) ∧ ((((2048 : Int) * (((1 : Nat) : Nat) : Int)) ≤ (((70368744177664 : Nat) : Nat) : Int)) ∧ ((2048 : Int) ≤ ((2 : Int) ^ (62 : Nat)))))) ∧ (((List.length (dvImage (Prod.snd (dvOn (DV.mk dm dm' dm'' d d1 d2 d3) (0 : Int) (0 : Int))))) ≤ (1152921504606846976 : Nat)) ∧ (condP (eqb (bif true then (decide ((dvImage (Prod.snd (dvOn (DV.mk dm dm' dm'' d d1 d2 d3) (0 : Int) (0 : Int)))) = (List.replicate (2048 : Nat) (0 : UInt8)))) else false) true) (Q (law21_DevAll_enc true)) (Q (law21_DevAll_enc false)))))) (Q (law21_DevAll_enc false)))) ((dvW (DV.mk dm dm' dm'' d d1 d2 d3)) ∧ (condP (eqb (decide ((Prod.fst (dvOn (DV.mk dm dm' dm'' d d1 d2 d3) n (0 : Int))) = (0 : Int))) true) (((devB (DV.now (Prod.snd (dvOn (DV.mk dm dm' dm'' d d1 d2 d3) n (0 : Int)))) (DV.sure (Prod.snd (dvOn (DV.mk dm dm' dm'' d d1 d2 d3) n (0 : Int)))) (DV.writes (Prod.snd (dvOn (DV.mk dm dm' dm'' d d1 d2 d3) n (0 : Int))))) = true) ∧ (condP (eqb (bif true then (decide ((DV.done (Prod.snd (dvOn (DV.mk dm dm' dm'' d d1 d2 d3) n (0 : Int)))) = n)) else false) true) ((dvC (Prod.snd (dvOn (DV.mk dm dm' dm'' d d1 d2 d3) n (0 : Int)))) ∧ (((List.length (dvImage (Prod.snd (dvOn (DV.mk dm dm' dm'' d d1 d2 d3) n (0 : Int))))) ≤ (1152921504606846976 : Nat)) ∧ (condP (eqb (bif true then (decide ((dvImage (Prod.snd (dvOn (DV.mk dm dm' dm'' d d1 d2 d3) n (0 : Int)))) = (dvImage (DV.mk dm dm' dm'' d d1 d2 d3)))) else false) true) (Q (law21_DevAll_enc true)) (Q (law21_DevAll_enc false))))) (Q (law21_DevAll_enc false)))) (Q (law21_DevAll_enc false))))))) ((dvC (DV.mk dm dm' dm'' d d1 d2 d3)) ∧ (condP (!all) ((dvW (DV.mk dm dm' dm'' d d1 d2 d3)) ∧ (condP (eqb (decide ((Prod.fst (dvOn (DV.mk dm dm' dm'' d d1 d2 d3) (0 : Int) (0 : Int))) = (0 : Int))) true) ((dvC (Prod.snd (dvOn (DV.mk dm dm' dm'' d d1 d2 d3) (0 : Int) (0 : Int)))) ∧ ((((0 : Int) ≤ (2048 : Int)) ∧ (((2048 : Int) ≤ (2048 : Int)) ∧ ((((2048 : Int) * (((1 : Nat) : Nat) : Int)) ≤ (((70368744177664 : Nat) : Nat) : Int)) ∧ ((2048 : Int) ≤ ((2 : Int) ^ (62 : Nat)))))) ∧ (((List.length (dvImage (Prod.snd (dvOn (DV.mk dm dm' dm'' d d1 d2 d3) (0 : Int) (0 : Int))))) ≤ (1152921504606846976 : Nat)) ∧ (condP (eqb (bif true then (decide ((dvImage (Prod.snd (dvOn (DV.mk dm dm' dm'' d d1 d2 d3) (0 : Int) (0 : Int)))) = (List.replicate (2048 : Nat) (0 : UInt8)))) else false) true) (Q (law21_DevAll_enc true)) (Q (law21_DevAll_enc false)))))) (Q (law21_DevAll_enc false)))) ((dvW (DV.mk dm dm' dm'' d d1 d2 d3)) ∧ (condP (eqb (decide ((Prod.fst (dvOn (DV.mk dm dm' dm'' d d1 d2 d3) n (0 : Int))) = (0 : Int))) true) (((devB (DV.now (Prod.snd (dvOn (DV.mk dm dm' dm'' d d1 d2 d3) n (0 : Int)))) (DV.sure (Prod.snd (dvOn (DV.mk dm dm' dm'' d d1 d2 d3) n (0 : Int)))) (DV.writes (Prod.snd (dvOn (DV.mk dm dm' dm'' d d1 d2 d3) n (0 : Int))))) = true) ∧ (condP (eqb (bif true then (decide ((DV.done (Prod.snd (dvOn (DV.mk dm dm' dm'' d d1 d2 d3) n (0 : Int)))) = n)) else false) true) ((dvC (Prod.snd (dvOn (DV.mk dm dm' dm'' d d1 d2 d3) n (0 : Int)))) ∧ (((List.length (dvImage (Prod.snd (dvOn (DV.mk dm dm' dm'' d d1 d2 d3) n (0 : Int))))) ≤ (1152921504606846976 : Nat)) ∧ (condP (eqb (bif true then (decide ((dvImage (Prod.snd (dvOn (DV.mk dm dm' dm'' d d1 d2 d3) n (0 : Int)))) = (dvImage (DV.mk dm dm' dm'' d d1 d2 d3)))) else false) true) (Q (law21_DevAll_enc true)) (Q (law21_DevAll_enc false))))) (Q (law21_DevAll_enc false)))) (Q (law21_DevAll_enc false))))))) := by kernel_rfl
theorem law21_DevAll_k0 {r : Bool} {Q : CallOut → Prop} (hQ : Q (law21_DevAll_enc r)) : ∀ k : Nat, (∀ (l : List PV) (all : Bool) (n : Int) (i : Int) (d : Int) (d1 : Bool) (d2 : Int) (d3 : Bool) (dm : List PV) (dm' : List (PV × PV)) (dm'' : List PV), law21_DevAll_h0 k l all n i d d1 d2 d3 dm dm' dm'' = some r → headP law21_DevAll_C law21_DevAll_lv [true, true, true, true, false, true, false] law21_DevAll_b (law21_DevAll_s0 l all n i d d1 d2 d3 dm dm' dm'') (fnK law21_DevAll_C law21_DevAll_r law21_DevAll_hs Q))
  | 0 => fun _ _ _ _ _ _ _ _ _ _ _ h => no_ok h
  | k + 1 => fun l all n i d d1 d2 d3 dm dm' dm'' h => headP_step (Eq.mpr (law21_DevAll_g0 l all n i d d1 d2 d3 dm dm' dm'' Q) (have h := (law21_DevAll_h0_q k l all n i d d1 d2 d3 dm dm' dm'').symm.trans h; cond_ok h (fun h => cond_ok h (fun h => ite_ok h fun hc0 h => cond_ok h (fun h => ⟨hc0, ⟨hc0, ite_ok h fun hc1 h => cond_ok h (fun h => (law21_DevAll_k0 hQ k) _ _ _ _ _ _ _ _ _ _ _ h) (fun h => (law21_DevAll_k0 hQ k) _ _ _ _ _ _ _ _ _ _ _ h)⟩⟩) (fun h => (law21_DevAll_k0 hQ k) _ _ _ _ _ _ _ _ _ _ _ h)) (fun h => ite_ok h fun hc0 h => cond_ok h (fun h => ite_ok h fun hc1 h => cond_ok h (fun h => ite_ok h fun hc2 h => ⟨by decide +kernel, ite_ok h fun hc3 h => cond_ok h (fun h => ret_ok (Q := Q) (e := law21_DevAll_enc) h hQ) (fun h => ret_ok (Q := Q) (e := law21_DevAll_enc) h hQ)⟩) (fun h => ret_ok (Q := Q) (e := law21_DevAll_enc) h hQ)) (fun h => ite_ok h fun hc1 h => cond_ok h (fun h => ite_ok h fun hc2 h => cond_ok h (fun h => ite_ok h fun hc3 h => ite_ok h fun hc4 h => cond_ok h (fun h => ret_ok (Q := Q) (e := law21_DevAll_enc) h hQ) (fun h => ret_ok (Q := Q) (e := law21_DevAll_enc) h hQ)) (fun h => ret_ok (Q := Q) (e := law21_DevAll_enc) h hQ)) (fun h => ret_ok (Q := Q) (e := law21_DevAll_enc) h hQ)))) (fun h => ite_ok h fun hc0 h => cond_ok h (fun h => ite_ok h fun hc1 h => cond_ok h (fun h => ite_ok h fun hc2 h => ⟨by decide +kernel, ite_ok h fun hc3 h => cond_ok h (fun h => ret_ok (Q := Q) (e := law21_DevAll_enc) h hQ) (fun h => ret_ok (Q := Q) (e := law21_DevAll_enc) h hQ)⟩) (fun h => ret_ok (Q := Q) (e := law21_DevAll_enc) h hQ)) (fun h => ite_ok h fun hc1 h => cond_ok h (fun h => ite_ok h fun hc2 h => cond_ok h (fun h => ite_ok h fun hc3 h => ite_ok h fun hc4 h => cond_ok h (fun h => ret_ok (Q := Q) (e := law21_DevAll_enc) h hQ) (fun h => ret_ok (Q := Q) (e := law21_DevAll_enc) h hQ)) (fun h => ret_ok (Q := Q) (e := law21_DevAll_enc) h hQ)) (fun h => ret_ok (Q := Q) (e := law21_DevAll_enc) h hQ)))))
theorem law21_DevAll_e (l : List PV) (all : Bool) (Q : CallOut → Prop) : evalFnP law21_DevAll_C law21_DevAll_lv law21_DevAll_r law21_DevAll_hs law21_DevAll_b [.pv (.sp 6 l), .pv (.sc .b all)] [] Q =
    (headP law21_DevAll_C law21_DevAll_lv [true, true, true, true, false, true, false] law21_DevAll_b (law21_DevAll_s0 l all (0 : Int) (0 : Int) (DV.done (dvNew (16 : Int))) (DV.cut (dvNew (16 : Int))) (DV.left (dvNew (16 : Int))) (DV.dark (dvNew (16 : Int))) (DV.now (dvNew (16 : Int))) (DV.sure (dvNew (16 : Int))) (DV.writes (dvNew (16 : Int)))) (fnK law21_DevAll_C law21_DevAll_r law21_DevAll_hs Q)) := by kernel_rfl
theorem law21_DevAll_w {k : Nat} (l : List PV) (all : Bool) {r} {Q : CallOut → Prop} (h : law21_DevAll k l all = some r) (hQ : Q (law21_DevAll_enc r)) : evalFnP law21_DevAll_C law21_DevAll_lv law21_DevAll_r law21_DevAll_hs law21_DevAll_b [.pv (.sp 6 l), .pv (.sc .b all)] [] Q :=
  Eq.mpr (law21_DevAll_e l all Q) (have h := (law21_DevAll_q k l all).symm.trans h; (law21_DevAll_k0 hQ _) _ _ _ _ _ _ _ _ _ _ _ h)
def law21_DevAll_c : Ans
  | [.pv (.sp 6 l), .pv (.sc .b all)], [] => some (some (actsW l = true), law21_DevAll_enc (true))
  | _, _ => none
theorem law21_DevAll_tok : TblOK Try.prog noG law21_DevAll_T := .cons ⟨by kernel_rfl, dev_New_ok⟩ (.cons ⟨by kernel_rfl, law21_bytes_ok⟩ (.cons ⟨by kernel_rfl, dev_Write_ok⟩ (.cons ⟨by kernel_rfl, dev_Image_ok⟩ (.cons ⟨by kernel_rfl, dev_On_ok⟩ (.cons ⟨by kernel_rfl, ref00_Same_ok⟩ (.cons ⟨by kernel_rfl, law21_works_ok⟩ (.cons ⟨by kernel_rfl, dev_Writes_ok⟩ (.nil))))))))
theorem law21_DevAll_ok : FnOK Try.prog noG 4 (unW law21_DevAll_c) := by
  refine FnOK.ofC (T := law21_DevAll_T) (nt := 88) (np := 0) (mv := []) (nf := false) (hs := law21_DevAll_hs) (fn := Try.f4) (body := law21_DevAll_b) law21_DevAll_tok (by kernel_rfl) (by kernel_rfl) (by kernel_rfl) (by kernel_rfl) (c := law21_DevAll_c) (lv := law21_DevAll_lv) ?_
  intro xs mem p out h hp
  unfold law21_DevAll_c at h
  split at h
  · cases h
    obtain ⟨k, hk⟩ := law21_DevAll_spec _ _ hp
    exact law21_DevAll_w _ _ hk rfl
  · cases h
end
end Go.Proofs.Ytgecpcajmhgboaa.M

namespace Go.Proofs.Ytgecpcajmhgboaa
open Go Go.ChangeShapes Go.WideShapes Go.ChangeAt Go.RowKit
open Go.Proofs.Ytgecpcajmhgboaa
theorem law21_DevAll_own : ownKnob Try.prog.godebug = none := by kernel_rfl
theorem law21_DevAll_law : ∀ ys : List M.PV, M.FitL [.sp 6 (.st [.sc .i, .sc .i, .sl .u8, .sc .u8, .sc .i, .sc .i]), .sc .b] ys → ∃ p out, M.law21_DevAll_c (ys.map .pv) [] = some (p, out) ∧ p.h ∧ out.val = .pv (.sc .b true) := by
  rintro ys ⟨_, _, rfl, ⟨x0, rfl, hx0, lx0⟩, ⟨_, _, rfl, ⟨x1, rfl, hx1⟩, rfl⟩⟩
  exact ⟨_, _, rfl, M.actsW_fit hx0, rfl⟩
set_option maxRecDepth 100000 in
theorem law21_DevAll_lifted (os : Os) (started : os.Started) (H : Type) (enc : TypeId × Value → H) :
    ReturnsInHanded {} Try.checked os 4 .any (Rows.devAllSpec.pre6 enc Try.prog Try.f4 [] false)
      (Rows.devAllSpec.post enc Try.prog Try.f4 false true false false) := by
  refine returnsInHanded_of_change_sized (C := Try.checked) law21_DevAll_own started (by kernel_rfl) (by kernel_rfl)
    (ChangeSpec.witness6 (enc := enc) (C := Try.checked) (os := os) false ⟨#[], #[.slice none 0 0, .bool false], []⟩ 8 (by kernel_rfl) (by kernel_rfl) (by kernel_rfl) (by kernel_rfl)) ?_
  intro W base args ds gs before hval hW _ hsz _
  exact M.law_contract (ss := [.sp 6 (.st [.sc .i, .sc .i, .sl .u8, .sc .u8, .sc .i, .sc .i]), .sc .b]) (G := M.noG) (c := M.law21_DevAll_c) (tb := 4) rfl (fun ds h => by
      match ds, h with
      | [d0, d1], _ => rfl) (by kernel_rfl) (by kernel_rfl) (by kernel_rfl) (by kernel_rfl) (by kernel_rfl) M.law21_DevAll_ok law21_DevAll_law hval hW hsz M.globOK_none
theorem devAll_row : Rows.DevAllSaid :=
  OpenClaim.holds_of_wide 4 Try.f4 rfl rfl rfl rfl rfl rfl rfl ⟨rfl, rfl, rfl, rfl, rfl⟩ rfl rfl rfl rfl rfl (by kernel_rfl) (by kernel_rfl) (by kernel_rfl)
    (of_decide_eq_true (by kernel_rfl)) (by unfold Func.isWrapper; first | (rw [if_pos (by decide +kernel)]; kernel_rfl) | (rw [if_neg (by decide +kernel)]; exact ⟨rfl, rfl⟩))
    (fun os started H enc _ => law21_DevAll_lifted os started H enc)
#print axioms devAll_row
end Go.Proofs.Ytgecpcajmhgboaa
