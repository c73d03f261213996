/- Part of the proofs: what functions of the program do: plain functions, and the walks that show it. No condition. -/
import Derived.KernelRfl
import Derived.Test.YtnolgfdjcipmmaaDoorProg
import Derived.Test.YtnolgfdjcipmmaaDoorLe
import Derived.Test.YtnolgfdjcipmmaaDoorSwords
import Derived.Test.YtnolgfdjcipmmaaDoorSshaS
import Derived.Test.YtnolgfdjcipmmaaDoorSendS
import Derived.Test.YtnolgfdjcipmmaaDoorStarS
import Derived.Test.YtnolgfdjcipmmaaDoorSbigS
import Derived.Test.YtnolgfdjcipmmaaDoorStreS
import Derived.Test.YtnolgfdjcipmmaaDoorFhead
import Derived.Test.YtnolgfdjcipmmaaDoorFtarget
import Derived.Test.YtnolgfdjcipmmaaDoorFbig
import Derived.Test.YtnolgfdjcipmmaaDoorSshaK
set_option linter.unusedVariables false
set_option linter.unusedSimpArgs false
set_option autoImplicit false
namespace Go.Proofs.YtnolgfdjcipmmaaDoor.M
open Go
noncomputable section
def tree_none_n  : Bool :=
  true
end
end Go.Proofs.YtnolgfdjcipmmaaDoor.M
namespace Go.Proofs.YtnolgfdjcipmmaaDoor.M
open Go
noncomputable section
def tree_Add_n (h_1_Prev:Vector UInt8 32) (h_1_Root:Vector UInt8 32) (h_1_Time:UInt32) (h_1_Bits:UInt32) (h_1_Nonce:UInt32):Int × Int :=
  ((0:Int),(1:Int))
end
end Go.Proofs.YtnolgfdjcipmmaaDoor.M
namespace Go.Proofs.YtnolgfdjcipmmaaDoor.M
open Go
noncomputable section
def tree_none_z  : Bool :=
  true
end
end Go.Proofs.YtnolgfdjcipmmaaDoor.M
namespace Go.Proofs.YtnolgfdjcipmmaaDoor.M
open Go
noncomputable section
def tree_Add_z (h_1_Prev:Vector UInt8 32) (h_1_Root:Vector UInt8 32) (h_1_Time:UInt32) (h_1_Bits:UInt32) (h_1_Nonce:UInt32):Int × Int :=
  ((0:Int),(1:Int))
end
end Go.Proofs.YtnolgfdjcipmmaaDoor.M
namespace Go.Proofs.YtnolgfdjcipmmaaDoor.M
open Go
noncomputable section
def tree_Find_n (id:Vector UInt8 32):Int × Int :=
  ((0:Int),(1:Int))
end
end Go.Proofs.YtnolgfdjcipmmaaDoor.M
namespace Go.Proofs.YtnolgfdjcipmmaaDoor.M
open Go
noncomputable section
def tree_Find_z (id:Vector UInt8 32):Int × Int :=
  ((0:Int),(1:Int))
end
end Go.Proofs.YtnolgfdjcipmmaaDoor.M
namespace Go.Proofs.YtnolgfdjcipmmaaDoor.M
open Go
noncomputable section
def tree_has (blocks:List PV) (ids:List (PV × PV)) (best:Int) (n:Int):Option (Bool × Int × List PV × (List (PV × PV))) :=
  bif eqb (decide ((0:Int)≤n)) true then(if(((PV.flats (List.map (fun(z5:PV × PV)=>(Prod.fst z5)) ids)) && (PV.flats (List.map (fun(z5:PV × PV)=>(Prod.snd z5)) ids)))=true)∧((PV.flats blocks)=true) then
      some ((bif true then(decide (n < (((List.length blocks):Nat):Int)))else false),best,blocks,ids)
    else none)
    else(if(((PV.flats (List.map (fun(z5:PV × PV)=>(Prod.fst z5)) ids)) && (PV.flats (List.map (fun(z5:PV × PV)=>(Prod.snd z5)) ids)))=true)∧((PV.flats blocks)=true) then
      some (false,best,blocks,ids)
    else none)
theorem zvo (blocks:List PV) (ids:List (PV × PV)) (best n:Int) (h:tvC (TV.mk blocks ids best)):tree_has blocks ids best n=some (zgk blocks n,best,blocks,ids):=by
  rw[tree_has.eq_1,if_pos h.flats,if_pos h.flats]
  unfold zgk
  cases decide (0≤n)<;>rfl
end
end Go.Proofs.YtnolgfdjcipmmaaDoor.M
namespace Go.Proofs.YtnolgfdjcipmmaaDoor.M
open Go
noncomputable section
def tree_Known_n (n:Int):Vector UInt8 32 × Vector UInt8 32 × Vector UInt8 32 × UInt32 × UInt32 × UInt32 × Int × UInt32 × Vector UInt64 4 × Int :=
  ((Vector.replicate 32 (0:UInt8)),(Vector.replicate 32 (0:UInt8)),(Vector.replicate 32 (0:UInt8)),(0:UInt32),(0:UInt32),(0:UInt32),(0:Int),(0:UInt32),(Vector.replicate 4 (0:UInt64)),(1:Int))
end
end Go.Proofs.YtnolgfdjcipmmaaDoor.M
namespace Go.Proofs.YtnolgfdjcipmmaaDoor.M
open Go
noncomputable section
def tree_Known_z (n:Int):Vector UInt8 32 × Vector UInt8 32 × Vector UInt8 32 × UInt32 × UInt32 × UInt32 × Int × UInt32 × Vector UInt64 4 × Int :=
  ((Vector.replicate 32 (0:UInt8)),(Vector.replicate 32 (0:UInt8)),(Vector.replicate 32 (0:UInt8)),(0:UInt32),(0:UInt32),(0:UInt32),(0:Int),(0:UInt32),(Vector.replicate 4 (0:UInt64)),(1:Int))
end
end Go.Proofs.YtnolgfdjcipmmaaDoor.M
namespace Go.Proofs.YtnolgfdjcipmmaaDoor.M
open Go
noncomputable section
def tree_Ctx_n (n:Int):UInt32 × UInt32 × UInt32 × Vector UInt8 32 × Int :=
  ((0:UInt32),(0:UInt32),(0:UInt32),(Vector.replicate 32 (0:UInt8)),(1:Int))
end
end Go.Proofs.YtnolgfdjcipmmaaDoor.M
namespace Go.Proofs.YtnolgfdjcipmmaaDoor.M
open Go
noncomputable section
def tree_Ctx_z (n:Int):UInt32 × UInt32 × UInt32 × Vector UInt8 32 × Int :=
  ((0:UInt32),(0:UInt32),(0:UInt32),(Vector.replicate 32 (0:UInt8)),(1:Int))
end
end Go.Proofs.YtnolgfdjcipmmaaDoor.M
namespace Go.Proofs.YtnolgfdjcipmmaaDoor.M
open Go
noncomputable section
def tree_Chain_n (n:Int):Int × List Int :=
  ((1:Int),([]:List Int))
end
end Go.Proofs.YtnolgfdjcipmmaaDoor.M
namespace Go.Proofs.YtnolgfdjcipmmaaDoor.M
open Go
noncomputable section
def tree_Chain_z (n:Int):Int × List Int :=
  ((1:Int),([]:List Int))
end
end Go.Proofs.YtnolgfdjcipmmaaDoor.M
namespace Go.Proofs.YtnolgfdjcipmmaaDoor.M
open Go
noncomputable section
def tree_Fork_n (a:Int) (b:Int):Int × Int :=
  ((0:Int),(1:Int))
end
end Go.Proofs.YtnolgfdjcipmmaaDoor.M
namespace Go.Proofs.YtnolgfdjcipmmaaDoor.M
open Go
noncomputable section
def tree_Fork_z (a:Int) (b:Int):Int × Int :=
  ((0:Int),(1:Int))
end
end Go.Proofs.YtnolgfdjcipmmaaDoor.M
namespace Go.Proofs.YtnolgfdjcipmmaaDoor.M
open Go
noncomputable section
def tree_Len_n  : Int :=
  (0:Int)
end
end Go.Proofs.YtnolgfdjcipmmaaDoor.M
namespace Go.Proofs.YtnolgfdjcipmmaaDoor.M
open Go
noncomputable section
def tree_Len_z  : Int :=
  (0:Int)
end
end Go.Proofs.YtnolgfdjcipmmaaDoor.M
namespace Go.Proofs.YtnolgfdjcipmmaaDoor.M
open Go
noncomputable section
def tree_Best_n  : Int :=
  (0:Int)
end
end Go.Proofs.YtnolgfdjcipmmaaDoor.M
namespace Go.Proofs.YtnolgfdjcipmmaaDoor.M
open Go
noncomputable section
def tree_Best_z  : Int :=
  (0:Int)
end
end Go.Proofs.YtnolgfdjcipmmaaDoor.M
namespace Go.Proofs.YtnolgfdjcipmmaaDoor.M
open Go
noncomputable section
def tree_Copy_n  : Unit :=
  ()
end
end Go.Proofs.YtnolgfdjcipmmaaDoor.M
namespace Go.Proofs.YtnolgfdjcipmmaaDoor.M
open Go
noncomputable section
def tree_Copy_z  : Unit :=
  ()
end
end Go.Proofs.YtnolgfdjcipmmaaDoor.M
namespace Go.Proofs.YtnolgfdjcipmmaaDoor.M
open Go
noncomputable section
def tree_New  : Int × List PV × (List (PV × PV)) :=
  ((0:Int), [(PV.st (List.set (List.set (List.set (List.set (List.reverse  [(PV.arr EK.u64 4 (Vector.replicate 4 (0:UInt64))),(PV.sc EK.u32 (0:UInt32)),(PV.sc EK.i (0:Int)),(PV.st (List.reverse  [(PV.sc EK.u32 (0:UInt32)),(PV.sc EK.u32 (0:UInt32)),(PV.sc EK.u32 (0:UInt32)),(PV.arr EK.u8 32 (Vector.replicate 32 (0:UInt8))),(PV.arr EK.u8 32 (Vector.replicate 32 (0:UInt8)))])),(PV.arr EK.u8 32 (Vector.replicate 32 (0:UInt8)))]) (0:Nat) (PV.arr EK.u8 32 (idV (Vector.replicate 32 (0:UInt8)) (Vector.replicate 32 (0:UInt8)) (0:UInt32) (545259519:UInt32) (0:UInt32)))) (1:Nat) (PV.st  [(PV.arr EK.u8 32 (Vector.replicate 32 (0:UInt8))),(PV.arr EK.u8 32 (Vector.replicate 32 (0:UInt8))),(PV.sc EK.u32 (0:UInt32)),(PV.sc EK.u32 (545259519:UInt32)),(PV.sc EK.u32 (0:UInt32))])) (2:Nat) (PV.sc EK.i (-(1:Int)))) (4:Nat) (PV.arr EK.u64 4 (zcn (545259519:UInt32)))))],(mset ([]:List (PV × PV)) (PV.arr EK.u8 32 (idV (Vector.replicate 32 (0:UInt8)) (Vector.replicate 32 (0:UInt8)) (0:UInt32) (545259519:UInt32) (0:UInt32))) (PV.sc EK.i (0:Int))))
theorem zxt:tree_New=(tvNew.best,tvNew.blocks,tvNew.ids):=by
  rw[tree_New.eq_1,zCL,zwN]
  rfl
end
end Go.Proofs.YtnolgfdjcipmmaaDoor.M
namespace Go.Proofs.YtnolgfdjcipmmaaDoor.M
open Go
noncomputable section
def tree_none (blocks:List PV) (ids:List (PV × PV)) (best:Int):Option (Bool × Int × List PV × (List (PV × PV))) :=
  if(((PV.flats (List.map (fun(z4:PV × PV)=>(Prod.fst z4)) ids)) && (PV.flats (List.map (fun(z4:PV × PV)=>(Prod.snd z4)) ids)))=true)∧((PV.flats blocks)=true) then
    some (false,best,blocks,ids)
  else none
theorem ztD (blocks:List PV) (ids:List (PV × PV)) (best:Int) (h:tvC (TV.mk blocks ids best)):tree_none blocks ids best=some (false,best,blocks,ids):=by
  rw[tree_none.eq_1,if_pos h.flats]
end
end Go.Proofs.YtnolgfdjcipmmaaDoor.M
namespace Go.Proofs.YtnolgfdjcipmmaaDoor.M
open Go
noncomputable section
def tree_Add (
              blocks:List PV) (ids:List (PV × PV)) (best:Int) (h_1_Prev:Vector UInt8 32) (h_1_Root:Vector UInt8 32) (h_1_Time:UInt32) (h_1_Bits:UInt32) (h_1_Nonce:UInt32):Option (Int × Int × Int × List PV × (List (PV × PV))) :=
  if tvC (
          TV.mk blocks ids best) then
    if(
        (zhm (
                zch (PV.arr EK.u8 32 (idV h_1_Prev h_1_Root h_1_Time h_1_Bits h_1_Nonce))) ids)=true)∧(((List.all ids (fun(z9:PV × PV)=>((PV.isAgg (Prod.snd z9)) == (PV.isAgg (PV.sc EK.i (0:Int))))))=true)∧((TY.chk (TY.sc EK.i) (Option.getD (mget ids (PV.arr EK.u8 32 (idV h_1_Prev h_1_Root h_1_Time h_1_Bits h_1_Nonce))) (PV.sc EK.i (0:Int))))=true)) then
      bif Option.isSome (mget ids (PV.arr EK.u8 32 (idV h_1_Prev h_1_Root h_1_Time h_1_Bits h_1_Nonce))) then(if(((PV.flats (List.map (fun(z9:PV × PV)=>(Prod.fst z9)) ids)) && (PV.flats (List.map (fun(z9:PV × PV)=>(Prod.snd z9)) ids)))=true)∧((PV.flats blocks)=true) then
          some ((0:Int),(7:Int),best,blocks,ids)
        else none)
        else(
              if(
                  (zhm (
                          zch (PV.arr EK.u8 32 h_1_Prev)) ids)=true)∧(((List.all ids (fun(z9:PV × PV)=>((PV.isAgg (Prod.snd z9)) == (PV.isAgg (PV.sc EK.i (0:Int))))))=true)∧((TY.chk (TY.sc EK.i) (Option.getD (mget ids (PV.arr EK.u8 32 h_1_Prev)) (PV.sc EK.i (0:Int))))=true)) then
          bif !(
                Option.isSome (mget ids (PV.arr EK.u8 32 h_1_Prev))) then(if(((PV.flats (List.map (fun(z9:PV × PV)=>(Prod.fst z9)) ids)) && (PV.flats (List.map (fun(z9:PV × PV)=>(Prod.snd z9)) ids)))=true)∧((PV.flats blocks)=true) then
              some ((0:Int),(6:Int),best,blocks,ids)
            else none)
            else(
                  bif !(
                        decide (
                                (ofE h_1_Bits)=(0:Int))) then(if(((PV.flats (List.map (fun(z9:PV × PV)=>(Prod.fst z9)) ids)) && (PV.flats (List.map (fun(z9:PV × PV)=>(Prod.snd z9)) ids)))=true)∧((PV.flats blocks)=true) then
                some ((0:Int),(5:Int),best,blocks,ids)
              else none)
              else(
                    bif decide (
                                (200:Int)≤(((List.length blocks):Nat):Int)) then(if(((PV.flats (List.map (fun(z9:PV × PV)=>(Prod.fst z9)) ids)) && (PV.flats (List.map (fun(z9:PV × PV)=>(Prod.snd z9)) ids)))=true)∧((PV.flats blocks)=true) then
                  some ((0:Int),(3:Int),best,blocks,ids)
                else none)
                else(
                      if(
                          (0:Int)≤(PV.scv EK.i (Option.getD (mget ids (PV.arr EK.u8 32 h_1_Prev)) (PV.sc EK.i (0:Int)))))∧((PV.scv EK.i (Option.getD (mget ids (PV.arr EK.u8 32 h_1_Prev)) (PV.sc EK.i (0:Int)))) < (((List.length blocks):Nat):Int)) then
                  if(
                      TY.chk (
                              TY.st  [(TY.arr EK.u8 32),(TY.st  [(TY.arr EK.u8 32),(TY.arr EK.u8 32),(TY.sc EK.u32),(TY.sc EK.u32),(TY.sc EK.u32)]),(TY.sc EK.i),(TY.sc EK.u32),(TY.arr EK.u64 4)]) (RC.get (RC.p 105 blocks)  [(PE.i (Int.toNat (PV.scv EK.i (Option.getD (mget ids (PV.arr EK.u8 32 h_1_Prev)) (PV.sc EK.i (0:Int))))))]))=true then
                    if(
                        TY.chk (
                                TY.arr EK.u64 4) (RC.get (RC.p 105 blocks) ( [(PE.i (Int.toNat (PV.scv EK.i (Option.getD (mget ids (PV.arr EK.u8 32 h_1_Prev)) (PV.sc EK.i (0:Int))))))]++ [(PE.f 4)])))=true then
                      bif addB (
                                PV.vecv EK.u64 4 (RC.get (RC.p 105 blocks) ( [(PE.i (Int.toNat (PV.scv EK.i (Option.getD (mget ids (PV.arr EK.u8 32 h_1_Prev)) (PV.sc EK.i (0:Int))))))]++ [(PE.f 4)]))) (zcn h_1_Bits) then(if(TY.chk (TY.sc EK.u32) (RC.get (RC.p 105 blocks) ( [(PE.i (Int.toNat (PV.scv EK.i (Option.getD (mget ids (PV.arr EK.u8 32 h_1_Prev)) (PV.sc EK.i (0:Int))))))]++ [(PE.f 3)])))=true then
                          if(
                              ((
                                List.length (blocks++ [(PV.st (List.set (List.set (List.set (List.set (List.set (List.reverse  [(PV.arr EK.u64 4 (Vector.replicate 4 (0:UInt64))),(PV.sc EK.u32 (0:UInt32)),(PV.sc EK.i (0:Int)),(PV.st (List.reverse  [(PV.sc EK.u32 (0:UInt32)),(PV.sc EK.u32 (0:UInt32)),(PV.sc EK.u32 (0:UInt32)),(PV.arr EK.u8 32 (Vector.replicate 32 (0:UInt8))),(PV.arr EK.u8 32 (Vector.replicate 32 (0:UInt8)))])),(PV.arr EK.u8 32 (Vector.replicate 32 (0:UInt8)))]) (0:Nat) (PV.arr EK.u8 32 (idV h_1_Prev h_1_Root h_1_Time h_1_Bits h_1_Nonce))) (1:Nat) (PV.st  [(PV.arr EK.u8 32 h_1_Prev),(PV.arr EK.u8 32 h_1_Root),(PV.sc EK.u32 h_1_Time),(PV.sc EK.u32 h_1_Bits),(PV.sc EK.u32 h_1_Nonce)])) (2:Nat) (TY.eta (TY.sc EK.i) (Option.getD (mget ids (PV.arr EK.u8 32 h_1_Prev)) (PV.sc EK.i (0:Int))))) (3:Nat) (PV.sc EK.u32 ((PV.scv EK.u32 (RC.get (RC.p 105 blocks) ( [(PE.i (Int.toNat (PV.scv EK.i (Option.getD (mget ids (PV.arr EK.u8 32 h_1_Prev)) (PV.sc EK.i (0:Int))))))]++ [(PE.f 3)])))+(1:UInt32)))) (4:Nat) (PV.arr EK.u64 4 (subV (Vector.replicate 4 (0:UInt64)) (uW (1:Nat))))))]))*(160:Nat))≤(70368744177664:Nat))∧((List.length (blocks++ [(PV.st (List.set (List.set (List.set (List.set (List.set (List.reverse  [(PV.arr EK.u64 4 (Vector.replicate 4 (0:UInt64))),(PV.sc EK.u32 (0:UInt32)),(PV.sc EK.i (0:Int)),(PV.st (List.reverse  [(PV.sc EK.u32 (0:UInt32)),(PV.sc EK.u32 (0:UInt32)),(PV.sc EK.u32 (0:UInt32)),(PV.arr EK.u8 32 (Vector.replicate 32 (0:UInt8))),(PV.arr EK.u8 32 (Vector.replicate 32 (0:UInt8)))])),(PV.arr EK.u8 32 (Vector.replicate 32 (0:UInt8)))]) (0:Nat) (PV.arr EK.u8 32 (idV h_1_Prev h_1_Root h_1_Time h_1_Bits h_1_Nonce))) (1:Nat) (PV.st  [(PV.arr EK.u8 32 h_1_Prev),(PV.arr EK.u8 32 h_1_Root),(PV.sc EK.u32 h_1_Time),(PV.sc EK.u32 h_1_Bits),(PV.sc EK.u32 h_1_Nonce)])) (2:Nat) (TY.eta (TY.sc EK.i) (Option.getD (mget ids (PV.arr EK.u8 32 h_1_Prev)) (PV.sc EK.i (0:Int))))) (3:Nat) (PV.sc EK.u32 ((PV.scv EK.u32 (RC.get (RC.p 105 blocks) ( [(PE.i (Int.toNat (PV.scv EK.i (Option.getD (mget ids (PV.arr EK.u8 32 h_1_Prev)) (PV.sc EK.i (0:Int))))))]++ [(PE.f 3)])))+(1:UInt32)))) (4:Nat) (PV.arr EK.u64 4 (subV (Vector.replicate 4 (0:UInt64)) (uW (1:Nat))))))]))≤(70368744177664:Nat)) then
                            if(
                                zhm (zch (PV.arr EK.u8 32 (idV h_1_Prev h_1_Root h_1_Time h_1_Bits h_1_Nonce))) ids)=true then
                              if(
                                  (0:Int)≤best)∧(best < (((List.length (blocks++ [(PV.st (List.set (List.set (List.set (List.set (List.set (List.reverse  [(PV.arr EK.u64 4 (Vector.replicate 4 (0:UInt64))),(PV.sc EK.u32 (0:UInt32)),(PV.sc EK.i (0:Int)),(PV.st (List.reverse  [(PV.sc EK.u32 (0:UInt32)),(PV.sc EK.u32 (0:UInt32)),(PV.sc EK.u32 (0:UInt32)),(PV.arr EK.u8 32 (Vector.replicate 32 (0:UInt8))),(PV.arr EK.u8 32 (Vector.replicate 32 (0:UInt8)))])),(PV.arr EK.u8 32 (Vector.replicate 32 (0:UInt8)))]) (0:Nat) (PV.arr EK.u8 32 (idV h_1_Prev h_1_Root h_1_Time h_1_Bits h_1_Nonce))) (1:Nat) (PV.st  [(PV.arr EK.u8 32 h_1_Prev),(PV.arr EK.u8 32 h_1_Root),(PV.sc EK.u32 h_1_Time),(PV.sc EK.u32 h_1_Bits),(PV.sc EK.u32 h_1_Nonce)])) (2:Nat) (TY.eta (TY.sc EK.i) (Option.getD (mget ids (PV.arr EK.u8 32 h_1_Prev)) (PV.sc EK.i (0:Int))))) (3:Nat) (PV.sc EK.u32 ((PV.scv EK.u32 (RC.get (RC.p 105 blocks) ( [(PE.i (Int.toNat (PV.scv EK.i (Option.getD (mget ids (PV.arr EK.u8 32 h_1_Prev)) (PV.sc EK.i (0:Int))))))]++ [(PE.f 3)])))+(1:UInt32)))) (4:Nat) (PV.arr EK.u64 4 (subV (Vector.replicate 4 (0:UInt64)) (uW (1:Nat))))))])):Nat):Int)) then
                                if(
                                    TY.chk (TY.st  [(TY.arr EK.u8 32),(TY.st  [(TY.arr EK.u8 32),(TY.arr EK.u8 32),(TY.sc EK.u32),(TY.sc EK.u32),(TY.sc EK.u32)]),(TY.sc EK.i),(TY.sc EK.u32),(TY.arr EK.u64 4)]) (RC.get (RC.p 105 (blocks++ [(PV.st (List.set (List.set (List.set (List.set (List.set (List.reverse  [(PV.arr EK.u64 4 (Vector.replicate 4 (0:UInt64))),(PV.sc EK.u32 (0:UInt32)),(PV.sc EK.i (0:Int)),(PV.st (List.reverse  [(PV.sc EK.u32 (0:UInt32)),(PV.sc EK.u32 (0:UInt32)),(PV.sc EK.u32 (0:UInt32)),(PV.arr EK.u8 32 (Vector.replicate 32 (0:UInt8))),(PV.arr EK.u8 32 (Vector.replicate 32 (0:UInt8)))])),(PV.arr EK.u8 32 (Vector.replicate 32 (0:UInt8)))]) (0:Nat) (PV.arr EK.u8 32 (idV h_1_Prev h_1_Root h_1_Time h_1_Bits h_1_Nonce))) (1:Nat) (PV.st  [(PV.arr EK.u8 32 h_1_Prev),(PV.arr EK.u8 32 h_1_Root),(PV.sc EK.u32 h_1_Time),(PV.sc EK.u32 h_1_Bits),(PV.sc EK.u32 h_1_Nonce)])) (2:Nat) (TY.eta (TY.sc EK.i) (Option.getD (mget ids (PV.arr EK.u8 32 h_1_Prev)) (PV.sc EK.i (0:Int))))) (3:Nat) (PV.sc EK.u32 ((PV.scv EK.u32 (RC.get (RC.p 105 blocks) ( [(PE.i (Int.toNat (PV.scv EK.i (Option.getD (mget ids (PV.arr EK.u8 32 h_1_Prev)) (PV.sc EK.i (0:Int))))))]++ [(PE.f 3)])))+(1:UInt32)))) (4:Nat) (PV.arr EK.u64 4 (subV (Vector.replicate 4 (0:UInt64)) (uW (1:Nat))))))]))  [(PE.i (Int.toNat best))]))=true then
                                  if(
                                      TY.chk (TY.arr EK.u64 4) (RC.get (RC.p 105 (blocks++ [(PV.st (List.set (List.set (List.set (List.set (List.set (List.reverse  [(PV.arr EK.u64 4 (Vector.replicate 4 (0:UInt64))),(PV.sc EK.u32 (0:UInt32)),(PV.sc EK.i (0:Int)),(PV.st (List.reverse  [(PV.sc EK.u32 (0:UInt32)),(PV.sc EK.u32 (0:UInt32)),(PV.sc EK.u32 (0:UInt32)),(PV.arr EK.u8 32 (Vector.replicate 32 (0:UInt8))),(PV.arr EK.u8 32 (Vector.replicate 32 (0:UInt8)))])),(PV.arr EK.u8 32 (Vector.replicate 32 (0:UInt8)))]) (0:Nat) (PV.arr EK.u8 32 (idV h_1_Prev h_1_Root h_1_Time h_1_Bits h_1_Nonce))) (1:Nat) (PV.st  [(PV.arr EK.u8 32 h_1_Prev),(PV.arr EK.u8 32 h_1_Root),(PV.sc EK.u32 h_1_Time),(PV.sc EK.u32 h_1_Bits),(PV.sc EK.u32 h_1_Nonce)])) (2:Nat) (TY.eta (TY.sc EK.i) (Option.getD (mget ids (PV.arr EK.u8 32 h_1_Prev)) (PV.sc EK.i (0:Int))))) (3:Nat) (PV.sc EK.u32 ((PV.scv EK.u32 (RC.get (RC.p 105 blocks) ( [(PE.i (Int.toNat (PV.scv EK.i (Option.getD (mget ids (PV.arr EK.u8 32 h_1_Prev)) (PV.sc EK.i (0:Int))))))]++ [(PE.f 3)])))+(1:UInt32)))) (4:Nat) (PV.arr EK.u64 4 (subV (Vector.replicate 4 (0:UInt64)) (uW (1:Nat))))))])) ( [(PE.i (Int.toNat best))]++ [(PE.f 4)])))=true then
                                    bif subB (PV.vecv EK.u64 4 (RC.get (RC.p 105 (blocks++ [(PV.st (List.set (List.set (List.set (List.set (List.set (List.reverse  [(PV.arr EK.u64 4 (Vector.replicate 4 (0:UInt64))),(PV.sc EK.u32 (0:UInt32)),(PV.sc EK.i (0:Int)),(PV.st (List.reverse  [(PV.sc EK.u32 (0:UInt32)),(PV.sc EK.u32 (0:UInt32)),(PV.sc EK.u32 (0:UInt32)),(PV.arr EK.u8 32 (Vector.replicate 32 (0:UInt8))),(PV.arr EK.u8 32 (Vector.replicate 32 (0:UInt8)))])),(PV.arr EK.u8 32 (Vector.replicate 32 (0:UInt8)))]) (0:Nat) (PV.arr EK.u8 32 (idV h_1_Prev h_1_Root h_1_Time h_1_Bits h_1_Nonce))) (1:Nat) (PV.st  [(PV.arr EK.u8 32 h_1_Prev),(PV.arr EK.u8 32 h_1_Root),(PV.sc EK.u32 h_1_Time),(PV.sc EK.u32 h_1_Bits),(PV.sc EK.u32 h_1_Nonce)])) (2:Nat) (TY.eta (TY.sc EK.i) (Option.getD (mget ids (PV.arr EK.u8 32 h_1_Prev)) (PV.sc EK.i (0:Int))))) (3:Nat) (PV.sc EK.u32 ((PV.scv EK.u32 (RC.get (RC.p 105 blocks) ( [(PE.i (Int.toNat (PV.scv EK.i (Option.getD (mget ids (PV.arr EK.u8 32 h_1_Prev)) (PV.sc EK.i (0:Int))))))]++ [(PE.f 3)])))+(1:UInt32)))) (4:Nat) (PV.arr EK.u64 4 (subV (Vector.replicate 4 (0:UInt64)) (uW (1:Nat))))))])) ( [(PE.i (Int.toNat best))]++ [(PE.f 4)]))) (subV (Vector.replicate 4 (0:UInt64)) (uW (1:Nat))) then(if(((PV.flats (List.map (fun(z9:PV × PV)=>(Prod.fst z9)) (mset ids (PV.arr EK.u8 32 (idV h_1_Prev h_1_Root h_1_Time h_1_Bits h_1_Nonce)) (PV.sc EK.i (((List.length blocks):Nat):Int))))) && (PV.flats (List.map (fun(z9:PV × PV)=>(Prod.snd z9)) (mset ids (PV.arr EK.u8 32 (idV h_1_Prev h_1_Root h_1_Time h_1_Bits h_1_Nonce)) (PV.sc EK.i (((List.length blocks):Nat):Int))))))=true)∧((PV.flats (blocks++ [(PV.st (List.set (List.set (List.set (List.set (List.set (List.reverse  [(PV.arr EK.u64 4 (Vector.replicate 4 (0:UInt64))),(PV.sc EK.u32 (0:UInt32)),(PV.sc EK.i (0:Int)),(PV.st (List.reverse  [(PV.sc EK.u32 (0:UInt32)),(PV.sc EK.u32 (0:UInt32)),(PV.sc EK.u32 (0:UInt32)),(PV.arr EK.u8 32 (Vector.replicate 32 (0:UInt8))),(PV.arr EK.u8 32 (Vector.replicate 32 (0:UInt8)))])),(PV.arr EK.u8 32 (Vector.replicate 32 (0:UInt8)))]) (0:Nat) (PV.arr EK.u8 32 (idV h_1_Prev h_1_Root h_1_Time h_1_Bits h_1_Nonce))) (1:Nat) (PV.st  [(PV.arr EK.u8 32 h_1_Prev),(PV.arr EK.u8 32 h_1_Root),(PV.sc EK.u32 h_1_Time),(PV.sc EK.u32 h_1_Bits),(PV.sc EK.u32 h_1_Nonce)])) (2:Nat) (TY.eta (TY.sc EK.i) (Option.getD (mget ids (PV.arr EK.u8 32 h_1_Prev)) (PV.sc EK.i (0:Int))))) (3:Nat) (PV.sc EK.u32 ((PV.scv EK.u32 (RC.get (RC.p 105 blocks) ( [(PE.i (Int.toNat (PV.scv EK.i (Option.getD (mget ids (PV.arr EK.u8 32 h_1_Prev)) (PV.sc EK.i (0:Int))))))]++ [(PE.f 3)])))+(1:UInt32)))) (4:Nat) (PV.arr EK.u64 4 (subV (Vector.replicate 4 (0:UInt64)) (uW (1:Nat))))))]))=true) then
                                        some ((((List.length blocks):Nat):Int),(0:Int),(((List.length blocks):Nat):Int),(blocks++ [(PV.st (List.set (List.set (List.set (List.set (List.set (List.reverse  [(PV.arr EK.u64 4 (Vector.replicate 4 (0:UInt64))),(PV.sc EK.u32 (0:UInt32)),(PV.sc EK.i (0:Int)),(PV.st (List.reverse  [(PV.sc EK.u32 (0:UInt32)),(PV.sc EK.u32 (0:UInt32)),(PV.sc EK.u32 (0:UInt32)),(PV.arr EK.u8 32 (Vector.replicate 32 (0:UInt8))),(PV.arr EK.u8 32 (Vector.replicate 32 (0:UInt8)))])),(PV.arr EK.u8 32 (Vector.replicate 32 (0:UInt8)))]) (0:Nat) (PV.arr EK.u8 32 (idV h_1_Prev h_1_Root h_1_Time h_1_Bits h_1_Nonce))) (1:Nat) (PV.st  [(PV.arr EK.u8 32 h_1_Prev),(PV.arr EK.u8 32 h_1_Root),(PV.sc EK.u32 h_1_Time),(PV.sc EK.u32 h_1_Bits),(PV.sc EK.u32 h_1_Nonce)])) (2:Nat) (TY.eta (TY.sc EK.i) (Option.getD (mget ids (PV.arr EK.u8 32 h_1_Prev)) (PV.sc EK.i (0:Int))))) (3:Nat) (PV.sc EK.u32 ((PV.scv EK.u32 (RC.get (RC.p 105 blocks) ( [(PE.i (Int.toNat (PV.scv EK.i (Option.getD (mget ids (PV.arr EK.u8 32 h_1_Prev)) (PV.sc EK.i (0:Int))))))]++ [(PE.f 3)])))+(1:UInt32)))) (4:Nat) (PV.arr EK.u64 4 (subV (Vector.replicate 4 (0:UInt64)) (uW (1:Nat))))))]),(mset ids (PV.arr EK.u8 32 (idV h_1_Prev h_1_Root h_1_Time h_1_Bits h_1_Nonce)) (PV.sc EK.i (((List.length blocks):Nat):Int))))
                                      else none)
                                      else(if(((PV.flats (List.map (fun(z9:PV × PV)=>(Prod.fst z9)) (mset ids (PV.arr EK.u8 32 (idV h_1_Prev h_1_Root h_1_Time h_1_Bits h_1_Nonce)) (PV.sc EK.i (((List.length blocks):Nat):Int))))) && (PV.flats (List.map (fun(z9:PV × PV)=>(Prod.snd z9)) (mset ids (PV.arr EK.u8 32 (idV h_1_Prev h_1_Root h_1_Time h_1_Bits h_1_Nonce)) (PV.sc EK.i (((List.length blocks):Nat):Int))))))=true)∧((PV.flats (blocks++ [(PV.st (List.set (List.set (List.set (List.set (List.set (List.reverse  [(PV.arr EK.u64 4 (Vector.replicate 4 (0:UInt64))),(PV.sc EK.u32 (0:UInt32)),(PV.sc EK.i (0:Int)),(PV.st (List.reverse  [(PV.sc EK.u32 (0:UInt32)),(PV.sc EK.u32 (0:UInt32)),(PV.sc EK.u32 (0:UInt32)),(PV.arr EK.u8 32 (Vector.replicate 32 (0:UInt8))),(PV.arr EK.u8 32 (Vector.replicate 32 (0:UInt8)))])),(PV.arr EK.u8 32 (Vector.replicate 32 (0:UInt8)))]) (0:Nat) (PV.arr EK.u8 32 (idV h_1_Prev h_1_Root h_1_Time h_1_Bits h_1_Nonce))) (1:Nat) (PV.st  [(PV.arr EK.u8 32 h_1_Prev),(PV.arr EK.u8 32 h_1_Root),(PV.sc EK.u32 h_1_Time),(PV.sc EK.u32 h_1_Bits),(PV.sc EK.u32 h_1_Nonce)])) (2:Nat) (TY.eta (TY.sc EK.i) (Option.getD (mget ids (PV.arr EK.u8 32 h_1_Prev)) (PV.sc EK.i (0:Int))))) (3:Nat) (PV.sc EK.u32 ((PV.scv EK.u32 (RC.get (RC.p 105 blocks) ( [(PE.i (Int.toNat (PV.scv EK.i (Option.getD (mget ids (PV.arr EK.u8 32 h_1_Prev)) (PV.sc EK.i (0:Int))))))]++ [(PE.f 3)])))+(1:UInt32)))) (4:Nat) (PV.arr EK.u64 4 (subV (Vector.replicate 4 (0:UInt64)) (uW (1:Nat))))))]))=true) then
                                        some ((((List.length blocks):Nat):Int),(0:Int),best,(blocks++ [(PV.st (List.set (List.set (List.set (List.set (List.set (List.reverse  [(PV.arr EK.u64 4 (Vector.replicate 4 (0:UInt64))),(PV.sc EK.u32 (0:UInt32)),(PV.sc EK.i (0:Int)),(PV.st (List.reverse  [(PV.sc EK.u32 (0:UInt32)),(PV.sc EK.u32 (0:UInt32)),(PV.sc EK.u32 (0:UInt32)),(PV.arr EK.u8 32 (Vector.replicate 32 (0:UInt8))),(PV.arr EK.u8 32 (Vector.replicate 32 (0:UInt8)))])),(PV.arr EK.u8 32 (Vector.replicate 32 (0:UInt8)))]) (0:Nat) (PV.arr EK.u8 32 (idV h_1_Prev h_1_Root h_1_Time h_1_Bits h_1_Nonce))) (1:Nat) (PV.st  [(PV.arr EK.u8 32 h_1_Prev),(PV.arr EK.u8 32 h_1_Root),(PV.sc EK.u32 h_1_Time),(PV.sc EK.u32 h_1_Bits),(PV.sc EK.u32 h_1_Nonce)])) (2:Nat) (TY.eta (TY.sc EK.i) (Option.getD (mget ids (PV.arr EK.u8 32 h_1_Prev)) (PV.sc EK.i (0:Int))))) (3:Nat) (PV.sc EK.u32 ((PV.scv EK.u32 (RC.get (RC.p 105 blocks) ( [(PE.i (Int.toNat (PV.scv EK.i (Option.getD (mget ids (PV.arr EK.u8 32 h_1_Prev)) (PV.sc EK.i (0:Int))))))]++ [(PE.f 3)])))+(1:UInt32)))) (4:Nat) (PV.arr EK.u64 4 (subV (Vector.replicate 4 (0:UInt64)) (uW (1:Nat))))))]),(mset ids (PV.arr EK.u8 32 (idV h_1_Prev h_1_Root h_1_Time h_1_Bits h_1_Nonce)) (PV.sc EK.i (((List.length blocks):Nat):Int))))
                                      else none)
                                  else none
                                else none
                              else none
                            else none
                          else none
                        else none)
                        else(
                              if(
                                  TY.chk (TY.sc EK.u32) (RC.get (RC.p 105 blocks) ( [(PE.i (Int.toNat (PV.scv EK.i (Option.getD (mget ids (PV.arr EK.u8 32 h_1_Prev)) (PV.sc EK.i (0:Int))))))]++ [(PE.f 3)])))=true then
                          if(
                              ((
                                List.length (blocks++ [(PV.st (List.set (List.set (List.set (List.set (List.set (List.reverse  [(PV.arr EK.u64 4 (Vector.replicate 4 (0:UInt64))),(PV.sc EK.u32 (0:UInt32)),(PV.sc EK.i (0:Int)),(PV.st (List.reverse  [(PV.sc EK.u32 (0:UInt32)),(PV.sc EK.u32 (0:UInt32)),(PV.sc EK.u32 (0:UInt32)),(PV.arr EK.u8 32 (Vector.replicate 32 (0:UInt8))),(PV.arr EK.u8 32 (Vector.replicate 32 (0:UInt8)))])),(PV.arr EK.u8 32 (Vector.replicate 32 (0:UInt8)))]) (0:Nat) (PV.arr EK.u8 32 (idV h_1_Prev h_1_Root h_1_Time h_1_Bits h_1_Nonce))) (1:Nat) (PV.st  [(PV.arr EK.u8 32 h_1_Prev),(PV.arr EK.u8 32 h_1_Root),(PV.sc EK.u32 h_1_Time),(PV.sc EK.u32 h_1_Bits),(PV.sc EK.u32 h_1_Nonce)])) (2:Nat) (TY.eta (TY.sc EK.i) (Option.getD (mget ids (PV.arr EK.u8 32 h_1_Prev)) (PV.sc EK.i (0:Int))))) (3:Nat) (PV.sc EK.u32 ((PV.scv EK.u32 (RC.get (RC.p 105 blocks) ( [(PE.i (Int.toNat (PV.scv EK.i (Option.getD (mget ids (PV.arr EK.u8 32 h_1_Prev)) (PV.sc EK.i (0:Int))))))]++ [(PE.f 3)])))+(1:UInt32)))) (4:Nat) (PV.arr EK.u64 4 (addV (PV.vecv EK.u64 4 (RC.get (RC.p 105 blocks) ( [(PE.i (Int.toNat (PV.scv EK.i (Option.getD (mget ids (PV.arr EK.u8 32 h_1_Prev)) (PV.sc EK.i (0:Int))))))]++ [(PE.f 4)]))) (zcn h_1_Bits)))))]))*(160:Nat))≤(70368744177664:Nat))∧((List.length (blocks++ [(PV.st (List.set (List.set (List.set (List.set (List.set (List.reverse  [(PV.arr EK.u64 4 (Vector.replicate 4 (0:UInt64))),(PV.sc EK.u32 (0:UInt32)),(PV.sc EK.i (0:Int)),(PV.st (List.reverse  [(PV.sc EK.u32 (0:UInt32)),(PV.sc EK.u32 (0:UInt32)),(PV.sc EK.u32 (0:UInt32)),(PV.arr EK.u8 32 (Vector.replicate 32 (0:UInt8))),(PV.arr EK.u8 32 (Vector.replicate 32 (0:UInt8)))])),(PV.arr EK.u8 32 (Vector.replicate 32 (0:UInt8)))]) (0:Nat) (PV.arr EK.u8 32 (idV h_1_Prev h_1_Root h_1_Time h_1_Bits h_1_Nonce))) (1:Nat) (PV.st  [(PV.arr EK.u8 32 h_1_Prev),(PV.arr EK.u8 32 h_1_Root),(PV.sc EK.u32 h_1_Time),(PV.sc EK.u32 h_1_Bits),(PV.sc EK.u32 h_1_Nonce)])) (2:Nat) (TY.eta (TY.sc EK.i) (Option.getD (mget ids (PV.arr EK.u8 32 h_1_Prev)) (PV.sc EK.i (0:Int))))) (3:Nat) (PV.sc EK.u32 ((PV.scv EK.u32 (RC.get (RC.p 105 blocks) ( [(PE.i (Int.toNat (PV.scv EK.i (Option.getD (mget ids (PV.arr EK.u8 32 h_1_Prev)) (PV.sc EK.i (0:Int))))))]++ [(PE.f 3)])))+(1:UInt32)))) (4:Nat) (PV.arr EK.u64 4 (addV (PV.vecv EK.u64 4 (RC.get (RC.p 105 blocks) ( [(PE.i (Int.toNat (PV.scv EK.i (Option.getD (mget ids (PV.arr EK.u8 32 h_1_Prev)) (PV.sc EK.i (0:Int))))))]++ [(PE.f 4)]))) (zcn h_1_Bits)))))]))≤(70368744177664:Nat)) then
                            if(
                                zhm (zch (PV.arr EK.u8 32 (idV h_1_Prev h_1_Root h_1_Time h_1_Bits h_1_Nonce))) ids)=true then
                              if(
                                  (0:Int)≤best)∧(best < (((List.length (blocks++ [(PV.st (List.set (List.set (List.set (List.set (List.set (List.reverse  [(PV.arr EK.u64 4 (Vector.replicate 4 (0:UInt64))),(PV.sc EK.u32 (0:UInt32)),(PV.sc EK.i (0:Int)),(PV.st (List.reverse  [(PV.sc EK.u32 (0:UInt32)),(PV.sc EK.u32 (0:UInt32)),(PV.sc EK.u32 (0:UInt32)),(PV.arr EK.u8 32 (Vector.replicate 32 (0:UInt8))),(PV.arr EK.u8 32 (Vector.replicate 32 (0:UInt8)))])),(PV.arr EK.u8 32 (Vector.replicate 32 (0:UInt8)))]) (0:Nat) (PV.arr EK.u8 32 (idV h_1_Prev h_1_Root h_1_Time h_1_Bits h_1_Nonce))) (1:Nat) (PV.st  [(PV.arr EK.u8 32 h_1_Prev),(PV.arr EK.u8 32 h_1_Root),(PV.sc EK.u32 h_1_Time),(PV.sc EK.u32 h_1_Bits),(PV.sc EK.u32 h_1_Nonce)])) (2:Nat) (TY.eta (TY.sc EK.i) (Option.getD (mget ids (PV.arr EK.u8 32 h_1_Prev)) (PV.sc EK.i (0:Int))))) (3:Nat) (PV.sc EK.u32 ((PV.scv EK.u32 (RC.get (RC.p 105 blocks) ( [(PE.i (Int.toNat (PV.scv EK.i (Option.getD (mget ids (PV.arr EK.u8 32 h_1_Prev)) (PV.sc EK.i (0:Int))))))]++ [(PE.f 3)])))+(1:UInt32)))) (4:Nat) (PV.arr EK.u64 4 (addV (PV.vecv EK.u64 4 (RC.get (RC.p 105 blocks) ( [(PE.i (Int.toNat (PV.scv EK.i (Option.getD (mget ids (PV.arr EK.u8 32 h_1_Prev)) (PV.sc EK.i (0:Int))))))]++ [(PE.f 4)]))) (zcn h_1_Bits)))))])):Nat):Int)) then
                                if(
                                    TY.chk (TY.st  [(TY.arr EK.u8 32),(TY.st  [(TY.arr EK.u8 32),(TY.arr EK.u8 32),(TY.sc EK.u32),(TY.sc EK.u32),(TY.sc EK.u32)]),(TY.sc EK.i),(TY.sc EK.u32),(TY.arr EK.u64 4)]) (RC.get (RC.p 105 (blocks++ [(PV.st (List.set (List.set (List.set (List.set (List.set (List.reverse  [(PV.arr EK.u64 4 (Vector.replicate 4 (0:UInt64))),(PV.sc EK.u32 (0:UInt32)),(PV.sc EK.i (0:Int)),(PV.st (List.reverse  [(PV.sc EK.u32 (0:UInt32)),(PV.sc EK.u32 (0:UInt32)),(PV.sc EK.u32 (0:UInt32)),(PV.arr EK.u8 32 (Vector.replicate 32 (0:UInt8))),(PV.arr EK.u8 32 (Vector.replicate 32 (0:UInt8)))])),(PV.arr EK.u8 32 (Vector.replicate 32 (0:UInt8)))]) (0:Nat) (PV.arr EK.u8 32 (idV h_1_Prev h_1_Root h_1_Time h_1_Bits h_1_Nonce))) (1:Nat) (PV.st  [(PV.arr EK.u8 32 h_1_Prev),(PV.arr EK.u8 32 h_1_Root),(PV.sc EK.u32 h_1_Time),(PV.sc EK.u32 h_1_Bits),(PV.sc EK.u32 h_1_Nonce)])) (2:Nat) (TY.eta (TY.sc EK.i) (Option.getD (mget ids (PV.arr EK.u8 32 h_1_Prev)) (PV.sc EK.i (0:Int))))) (3:Nat) (PV.sc EK.u32 ((PV.scv EK.u32 (RC.get (RC.p 105 blocks) ( [(PE.i (Int.toNat (PV.scv EK.i (Option.getD (mget ids (PV.arr EK.u8 32 h_1_Prev)) (PV.sc EK.i (0:Int))))))]++ [(PE.f 3)])))+(1:UInt32)))) (4:Nat) (PV.arr EK.u64 4 (addV (PV.vecv EK.u64 4 (RC.get (RC.p 105 blocks) ( [(PE.i (Int.toNat (PV.scv EK.i (Option.getD (mget ids (PV.arr EK.u8 32 h_1_Prev)) (PV.sc EK.i (0:Int))))))]++ [(PE.f 4)]))) (zcn h_1_Bits)))))]))  [(PE.i (Int.toNat best))]))=true then
                                  if(
                                      TY.chk (TY.arr EK.u64 4) (RC.get (RC.p 105 (blocks++ [(PV.st (List.set (List.set (List.set (List.set (List.set (List.reverse  [(PV.arr EK.u64 4 (Vector.replicate 4 (0:UInt64))),(PV.sc EK.u32 (0:UInt32)),(PV.sc EK.i (0:Int)),(PV.st (List.reverse  [(PV.sc EK.u32 (0:UInt32)),(PV.sc EK.u32 (0:UInt32)),(PV.sc EK.u32 (0:UInt32)),(PV.arr EK.u8 32 (Vector.replicate 32 (0:UInt8))),(PV.arr EK.u8 32 (Vector.replicate 32 (0:UInt8)))])),(PV.arr EK.u8 32 (Vector.replicate 32 (0:UInt8)))]) (0:Nat) (PV.arr EK.u8 32 (idV h_1_Prev h_1_Root h_1_Time h_1_Bits h_1_Nonce))) (1:Nat) (PV.st  [(PV.arr EK.u8 32 h_1_Prev),(PV.arr EK.u8 32 h_1_Root),(PV.sc EK.u32 h_1_Time),(PV.sc EK.u32 h_1_Bits),(PV.sc EK.u32 h_1_Nonce)])) (2:Nat) (TY.eta (TY.sc EK.i) (Option.getD (mget ids (PV.arr EK.u8 32 h_1_Prev)) (PV.sc EK.i (0:Int))))) (3:Nat) (PV.sc EK.u32 ((PV.scv EK.u32 (RC.get (RC.p 105 blocks) ( [(PE.i (Int.toNat (PV.scv EK.i (Option.getD (mget ids (PV.arr EK.u8 32 h_1_Prev)) (PV.sc EK.i (0:Int))))))]++ [(PE.f 3)])))+(1:UInt32)))) (4:Nat) (PV.arr EK.u64 4 (addV (PV.vecv EK.u64 4 (RC.get (RC.p 105 blocks) ( [(PE.i (Int.toNat (PV.scv EK.i (Option.getD (mget ids (PV.arr EK.u8 32 h_1_Prev)) (PV.sc EK.i (0:Int))))))]++ [(PE.f 4)]))) (zcn h_1_Bits)))))])) ( [(PE.i (Int.toNat best))]++ [(PE.f 4)])))=true then
                                    bif subB (PV.vecv EK.u64 4 (RC.get (RC.p 105 (blocks++ [(PV.st (List.set (List.set (List.set (List.set (List.set (List.reverse  [(PV.arr EK.u64 4 (Vector.replicate 4 (0:UInt64))),(PV.sc EK.u32 (0:UInt32)),(PV.sc EK.i (0:Int)),(PV.st (List.reverse  [(PV.sc EK.u32 (0:UInt32)),(PV.sc EK.u32 (0:UInt32)),(PV.sc EK.u32 (0:UInt32)),(PV.arr EK.u8 32 (Vector.replicate 32 (0:UInt8))),(PV.arr EK.u8 32 (Vector.replicate 32 (0:UInt8)))])),(PV.arr EK.u8 32 (Vector.replicate 32 (0:UInt8)))]) (0:Nat) (PV.arr EK.u8 32 (idV h_1_Prev h_1_Root h_1_Time h_1_Bits h_1_Nonce))) (1:Nat) (PV.st  [(PV.arr EK.u8 32 h_1_Prev),(PV.arr EK.u8 32 h_1_Root),(PV.sc EK.u32 h_1_Time),(PV.sc EK.u32 h_1_Bits),(PV.sc EK.u32 h_1_Nonce)])) (2:Nat) (TY.eta (TY.sc EK.i) (Option.getD (mget ids (PV.arr EK.u8 32 h_1_Prev)) (PV.sc EK.i (0:Int))))) (3:Nat) (PV.sc EK.u32 ((PV.scv EK.u32 (RC.get (RC.p 105 blocks) ( [(PE.i (Int.toNat (PV.scv EK.i (Option.getD (mget ids (PV.arr EK.u8 32 h_1_Prev)) (PV.sc EK.i (0:Int))))))]++ [(PE.f 3)])))+(1:UInt32)))) (4:Nat) (PV.arr EK.u64 4 (addV (PV.vecv EK.u64 4 (RC.get (RC.p 105 blocks) ( [(PE.i (Int.toNat (PV.scv EK.i (Option.getD (mget ids (PV.arr EK.u8 32 h_1_Prev)) (PV.sc EK.i (0:Int))))))]++ [(PE.f 4)]))) (zcn h_1_Bits)))))])) ( [(PE.i (Int.toNat best))]++ [(PE.f 4)]))) (addV (PV.vecv EK.u64 4 (RC.get (RC.p 105 blocks) ( [(PE.i (Int.toNat (PV.scv EK.i (Option.getD (mget ids (PV.arr EK.u8 32 h_1_Prev)) (PV.sc EK.i (0:Int))))))]++ [(PE.f 4)]))) (zcn h_1_Bits)) then(if(((PV.flats (List.map (fun(z9:PV × PV)=>(Prod.fst z9)) (mset ids (PV.arr EK.u8 32 (idV h_1_Prev h_1_Root h_1_Time h_1_Bits h_1_Nonce)) (PV.sc EK.i (((List.length blocks):Nat):Int))))) && (PV.flats (List.map (fun(z9:PV × PV)=>(Prod.snd z9)) (mset ids (PV.arr EK.u8 32 (idV h_1_Prev h_1_Root h_1_Time h_1_Bits h_1_Nonce)) (PV.sc EK.i (((List.length blocks):Nat):Int))))))=true)∧((PV.flats (blocks++ [(PV.st (List.set (List.set (List.set (List.set (List.set (List.reverse  [(PV.arr EK.u64 4 (Vector.replicate 4 (0:UInt64))),(PV.sc EK.u32 (0:UInt32)),(PV.sc EK.i (0:Int)),(PV.st (List.reverse  [(PV.sc EK.u32 (0:UInt32)),(PV.sc EK.u32 (0:UInt32)),(PV.sc EK.u32 (0:UInt32)),(PV.arr EK.u8 32 (Vector.replicate 32 (0:UInt8))),(PV.arr EK.u8 32 (Vector.replicate 32 (0:UInt8)))])),(PV.arr EK.u8 32 (Vector.replicate 32 (0:UInt8)))]) (0:Nat) (PV.arr EK.u8 32 (idV h_1_Prev h_1_Root h_1_Time h_1_Bits h_1_Nonce))) (1:Nat) (PV.st  [(PV.arr EK.u8 32 h_1_Prev),(PV.arr EK.u8 32 h_1_Root),(PV.sc EK.u32 h_1_Time),(PV.sc EK.u32 h_1_Bits),(PV.sc EK.u32 h_1_Nonce)])) (2:Nat) (TY.eta (TY.sc EK.i) (Option.getD (mget ids (PV.arr EK.u8 32 h_1_Prev)) (PV.sc EK.i (0:Int))))) (3:Nat) (PV.sc EK.u32 ((PV.scv EK.u32 (RC.get (RC.p 105 blocks) ( [(PE.i (Int.toNat (PV.scv EK.i (Option.getD (mget ids (PV.arr EK.u8 32 h_1_Prev)) (PV.sc EK.i (0:Int))))))]++ [(PE.f 3)])))+(1:UInt32)))) (4:Nat) (PV.arr EK.u64 4 (addV (PV.vecv EK.u64 4 (RC.get (RC.p 105 blocks) ( [(PE.i (Int.toNat (PV.scv EK.i (Option.getD (mget ids (PV.arr EK.u8 32 h_1_Prev)) (PV.sc EK.i (0:Int))))))]++ [(PE.f 4)]))) (zcn h_1_Bits)))))]))=true) then
                                        some ((((List.length blocks):Nat):Int),(0:Int),(((List.length blocks):Nat):Int),(blocks++ [(PV.st (List.set (List.set (List.set (List.set (List.set (List.reverse  [(PV.arr EK.u64 4 (Vector.replicate 4 (0:UInt64))),(PV.sc EK.u32 (0:UInt32)),(PV.sc EK.i (0:Int)),(PV.st (List.reverse  [(PV.sc EK.u32 (0:UInt32)),(PV.sc EK.u32 (0:UInt32)),(PV.sc EK.u32 (0:UInt32)),(PV.arr EK.u8 32 (Vector.replicate 32 (0:UInt8))),(PV.arr EK.u8 32 (Vector.replicate 32 (0:UInt8)))])),(PV.arr EK.u8 32 (Vector.replicate 32 (0:UInt8)))]) (0:Nat) (PV.arr EK.u8 32 (idV h_1_Prev h_1_Root h_1_Time h_1_Bits h_1_Nonce))) (1:Nat) (PV.st  [(PV.arr EK.u8 32 h_1_Prev),(PV.arr EK.u8 32 h_1_Root),(PV.sc EK.u32 h_1_Time),(PV.sc EK.u32 h_1_Bits),(PV.sc EK.u32 h_1_Nonce)])) (2:Nat) (TY.eta (TY.sc EK.i) (Option.getD (mget ids (PV.arr EK.u8 32 h_1_Prev)) (PV.sc EK.i (0:Int))))) (3:Nat) (PV.sc EK.u32 ((PV.scv EK.u32 (RC.get (RC.p 105 blocks) ( [(PE.i (Int.toNat (PV.scv EK.i (Option.getD (mget ids (PV.arr EK.u8 32 h_1_Prev)) (PV.sc EK.i (0:Int))))))]++ [(PE.f 3)])))+(1:UInt32)))) (4:Nat) (PV.arr EK.u64 4 (addV (PV.vecv EK.u64 4 (RC.get (RC.p 105 blocks) ( [(PE.i (Int.toNat (PV.scv EK.i (Option.getD (mget ids (PV.arr EK.u8 32 h_1_Prev)) (PV.sc EK.i (0:Int))))))]++ [(PE.f 4)]))) (zcn h_1_Bits)))))]),(mset ids (PV.arr EK.u8 32 (idV h_1_Prev h_1_Root h_1_Time h_1_Bits h_1_Nonce)) (PV.sc EK.i (((List.length blocks):Nat):Int))))
                                      else none)
                                      else(if(((PV.flats (List.map (fun(z9:PV × PV)=>(Prod.fst z9)) (mset ids (PV.arr EK.u8 32 (idV h_1_Prev h_1_Root h_1_Time h_1_Bits h_1_Nonce)) (PV.sc EK.i (((List.length blocks):Nat):Int))))) && (PV.flats (List.map (fun(z9:PV × PV)=>(Prod.snd z9)) (mset ids (PV.arr EK.u8 32 (idV h_1_Prev h_1_Root h_1_Time h_1_Bits h_1_Nonce)) (PV.sc EK.i (((List.length blocks):Nat):Int))))))=true)∧((PV.flats (blocks++ [(PV.st (List.set (List.set (List.set (List.set (List.set (List.reverse  [(PV.arr EK.u64 4 (Vector.replicate 4 (0:UInt64))),(PV.sc EK.u32 (0:UInt32)),(PV.sc EK.i (0:Int)),(PV.st (List.reverse  [(PV.sc EK.u32 (0:UInt32)),(PV.sc EK.u32 (0:UInt32)),(PV.sc EK.u32 (0:UInt32)),(PV.arr EK.u8 32 (Vector.replicate 32 (0:UInt8))),(PV.arr EK.u8 32 (Vector.replicate 32 (0:UInt8)))])),(PV.arr EK.u8 32 (Vector.replicate 32 (0:UInt8)))]) (0:Nat) (PV.arr EK.u8 32 (idV h_1_Prev h_1_Root h_1_Time h_1_Bits h_1_Nonce))) (1:Nat) (PV.st  [(PV.arr EK.u8 32 h_1_Prev),(PV.arr EK.u8 32 h_1_Root),(PV.sc EK.u32 h_1_Time),(PV.sc EK.u32 h_1_Bits),(PV.sc EK.u32 h_1_Nonce)])) (2:Nat) (TY.eta (TY.sc EK.i) (Option.getD (mget ids (PV.arr EK.u8 32 h_1_Prev)) (PV.sc EK.i (0:Int))))) (3:Nat) (PV.sc EK.u32 ((PV.scv EK.u32 (RC.get (RC.p 105 blocks) ( [(PE.i (Int.toNat (PV.scv EK.i (Option.getD (mget ids (PV.arr EK.u8 32 h_1_Prev)) (PV.sc EK.i (0:Int))))))]++ [(PE.f 3)])))+(1:UInt32)))) (4:Nat) (PV.arr EK.u64 4 (addV (PV.vecv EK.u64 4 (RC.get (RC.p 105 blocks) ( [(PE.i (Int.toNat (PV.scv EK.i (Option.getD (mget ids (PV.arr EK.u8 32 h_1_Prev)) (PV.sc EK.i (0:Int))))))]++ [(PE.f 4)]))) (zcn h_1_Bits)))))]))=true) then
                                        some ((((List.length blocks):Nat):Int),(0:Int),best,(blocks++ [(PV.st (List.set (List.set (List.set (List.set (List.set (List.reverse  [(PV.arr EK.u64 4 (Vector.replicate 4 (0:UInt64))),(PV.sc EK.u32 (0:UInt32)),(PV.sc EK.i (0:Int)),(PV.st (List.reverse  [(PV.sc EK.u32 (0:UInt32)),(PV.sc EK.u32 (0:UInt32)),(PV.sc EK.u32 (0:UInt32)),(PV.arr EK.u8 32 (Vector.replicate 32 (0:UInt8))),(PV.arr EK.u8 32 (Vector.replicate 32 (0:UInt8)))])),(PV.arr EK.u8 32 (Vector.replicate 32 (0:UInt8)))]) (0:Nat) (PV.arr EK.u8 32 (idV h_1_Prev h_1_Root h_1_Time h_1_Bits h_1_Nonce))) (1:Nat) (PV.st  [(PV.arr EK.u8 32 h_1_Prev),(PV.arr EK.u8 32 h_1_Root),(PV.sc EK.u32 h_1_Time),(PV.sc EK.u32 h_1_Bits),(PV.sc EK.u32 h_1_Nonce)])) (2:Nat) (TY.eta (TY.sc EK.i) (Option.getD (mget ids (PV.arr EK.u8 32 h_1_Prev)) (PV.sc EK.i (0:Int))))) (3:Nat) (PV.sc EK.u32 ((PV.scv EK.u32 (RC.get (RC.p 105 blocks) ( [(PE.i (Int.toNat (PV.scv EK.i (Option.getD (mget ids (PV.arr EK.u8 32 h_1_Prev)) (PV.sc EK.i (0:Int))))))]++ [(PE.f 3)])))+(1:UInt32)))) (4:Nat) (PV.arr EK.u64 4 (addV (PV.vecv EK.u64 4 (RC.get (RC.p 105 blocks) ( [(PE.i (Int.toNat (PV.scv EK.i (Option.getD (mget ids (PV.arr EK.u8 32 h_1_Prev)) (PV.sc EK.i (0:Int))))))]++ [(PE.f 4)]))) (zcn h_1_Bits)))))]),(mset ids (PV.arr EK.u8 32 (idV h_1_Prev h_1_Root h_1_Time h_1_Bits h_1_Nonce)) (PV.sc EK.i (((List.length blocks):Nat):Int))))
                                      else none)
                                  else none
                                else none
                              else none
                            else none
                          else none
                        else none)
                    else none
                  else none
                else none)))
        else none)
    else none
  else none
theorem zv6 (blocks:List PV) (ids:List (PV × PV)) (best:Int) (p r:Vector UInt8 32) (t b n:UInt32) (h:tvC (TV.mk blocks ids best)) :
    tree_Add blocks ids best p r t b n=some ((zaH (TV.mk blocks ids best) p r t b n).1,(zaH (TV.mk blocks ids best) p r t b n).2.1,(zaH (TV.mk blocks ids best) p r t b n).2.2.best,(zaH (TV.mk blocks ids best) p r t b n).2.2.blocks,(zaH (TV.mk blocks ids best) p r t b n).2.2.ids):=by
  have hfl:=h.flats
  have hC:=h
  obtain ⟨ks,ok,e⟩:=h.get
  rw[zB2,e,zxf]
  cases e
  have F1:=zCd ks (idV p r t b n)
  have F2:=zCd ks p
  have hbl:=zxK ok.ne
  have hlen:=ok.len
  rw[tree_Add.eq_1,if_pos hC,if_pos F1,if_pos hfl,if_pos F2]
  unfold tAdd
  cases h1:zgZ ks (idV p r t b n) with
  | some i =>
    rw[zxR h1]
    rfl
  | none =>
    rw[zxS h1]
    simp only[Option.isSome_none,cond_false]
    cases h2:zgZ ks p with
    | none =>
      rw[zxS h2]
      simp only[Option.isSome_none,Bool.not_false,cond_true]
      rw[if_pos hfl]
      rfl
    | some i =>
      obtain ⟨hi,_⟩:=zwI h2
      rw[zxR h2]
      simp only[Option.isSome_some,Bool.not_true,cond_false,Option.getD_some,zId,Int.toNat_natCast]
      by_cases h3:ofE b=0
      · rw[decide_eq_true h3,if_neg (show ¬ (ofE b≠0)from fun q=>q h3)]
        simp only[Bool.not_true,cond_false,List.length_map]
        by_cases h4:200≤ks.length
        · rw[decide_eq_true (show (200:Int)≤((ks.length:Nat):Int) by omega),if_pos h4]
          simp only[cond_true]
          rw[if_pos hfl]
          rfl
        · rw[decide_eq_false (show ¬ (200:Int)≤((ks.length:Nat):Int) by omega),if_neg h4]
          simp only[cond_false]
          rw[if_pos (show (0:Int)≤((i:Nat):Int)∧((i:Nat):Int) < ((ks.length:Nat):Int) by omega),zHu hi,if_pos (show TY.chk (TY.st [TY.arr EK.u8 32,TY.st [TY.arr EK.u8 32,TY.arr EK.u8 32,TY.sc EK.u32,TY.sc EK.u32,TY.sc EK.u32],TY.sc EK.i,TY.sc EK.u32,TY.arr EK.u64 4]) (knPV (ks.getD i kn0))=true from rfl),zGU hi,zHX hi,if_pos (show TY.chk (TY.arr EK.u64 4) (PV.arr EK.u64 4 (ks.getD i kn0).work)=true from rfl)]
          have hN:∀ W:Vector UInt64 4,PV.st (List.set (List.set (List.set (List.set (List.set (List.reverse  [(PV.arr EK.u64 4 (Vector.replicate 4 (0:UInt64))),(PV.sc EK.u32 (0:UInt32)),(PV.sc EK.i (0:Int)),(PV.st (List.reverse  [(PV.sc EK.u32 (0:UInt32)),(PV.sc EK.u32 (0:UInt32)),(PV.sc EK.u32 (0:UInt32)),(PV.arr EK.u8 32 (Vector.replicate 32 (0:UInt8))),(PV.arr EK.u8 32 (Vector.replicate 32 (0:UInt8)))])),(PV.arr EK.u8 32 (Vector.replicate 32 (0:UInt8)))]) (0:Nat) (PV.arr EK.u8 32 (idV p r t b n))) (1:Nat) (PV.st  [(PV.arr EK.u8 32 p),(PV.arr EK.u8 32 r),(PV.sc EK.u32 t),(PV.sc EK.u32 b),(PV.sc EK.u32 n)])) (2:Nat) (TY.eta (TY.sc EK.i) (PV.sc EK.i (i:Int)))) (3:Nat) (PV.sc EK.u32 ((PV.scv EK.u32 (PV.sc EK.u32 (ks.getD i kn0).height))+(1:UInt32)))) (4:Nat) (PV.arr EK.u64 4 W))=knPV ⟨idV p r t b n,p,r,t,b,n,(i:Int),(ks.getD i kn0).height+1,W⟩:=fun W=>rfl
          have hid:(zhU ks i p r t b n).id=idV p r t b n:=rfl
          have hK:∀ W,W=(zhU ks i p r t b n).work→(⟨idV p r t b n,p,r,t,b,n,(i:Int),(ks.getD i kn0).height+1,W⟩:KN)=zhU ks i p r t b n:=fun W hW=>by rw[hW]; rfl
          rw[zv4]
          cases hab:addB (ks.getD i kn0).work (zcn b)
          case' true=>have hW:subV (Vector.replicate 4 0) (uW 1)=(zhU ks i p r t b n).work:=by show _=zqW _ _; unfold zqW; rw[hab]; rfl
          case' false=>have hW:addV (ks.getD i kn0).work (zcn b)=(zhU ks i p r t b n).work:=by show _=zqW _ _; unfold zqW; rw[hab]; rfl
          all_goals
            simp only[cond_true,cond_false,hN,hK _ hW]
            have hM:List.map knPV ks++[knPV (zhU ks i p r t b n)]=(ks++[zhU ks i p r t b n]).map knPV:=by rw[List.map_append]; rfl
            have hl2:(ks++[zhU ks i p r t b n]).length=ks.length+1:=by simp
            have hbl2:zeZ ks < (ks++[zhU ks i p r t b n]).length:=by omega
            have hms:mset (za7 0 ks) (PV.arr EK.u8 32 (idV p r t b n)) (PV.sc EK.i ((ks.length:Nat):Int))=za7 0 (ks++[zhU ks i p r t b n]):=by
              rw[zBP ks 0 _ _ h1,zpT,Int.zero_add,hid]
            have hf2:=And.intro (zsH (ks++[zhU ks i p r t b n]) 0) (zCn (ks++[zhU ks i p r t b n]))
            rw[if_pos (show TY.chk (TY.sc EK.u32) (PV.sc EK.u32 (ks.getD i kn0).height)=true from rfl),hM,List.length_map,hl2,if_pos (show (ks.length+1)*160≤70368744177664∧ks.length+1≤70368744177664 from ⟨by omega,by omega⟩),if_pos F1.1,if_pos (show (0:Int)≤((zeZ ks:Nat):Int)∧((zeZ ks:Nat):Int) < ((ks.length+1:Nat):Int) by omega),zHu hbl2,if_pos (show TY.chk (TY.st [TY.arr EK.u8 32,TY.st [TY.arr EK.u8 32,TY.arr EK.u8 32,TY.sc EK.u32,TY.sc EK.u32,TY.sc EK.u32],TY.sc EK.i,TY.sc EK.u32,TY.arr EK.u64 4]) (knPV ((ks++[zhU ks i p r t b n]).getD (zeZ ks) kn0))=true from rfl),zGU hbl2,if_pos (show TY.chk (TY.arr EK.u64 4) (PV.arr EK.u64 4 ((ks++[zhU ks i p r t b n]).getD (zeZ ks) kn0).work)=true from rfl),zv4,hms,if_pos hf2,if_pos hf2,zkC _ _ _ _ hbl,hW]
            have hbs:=zrh ok.ne (zhU ks i p r t b n)
            cases hsb:subB (ks.getD (zeZ ks) kn0).work (zhU ks i p r t b n).work with
            | true =>
              rw[hsb,if_pos rfl]at hbs
              simp only[cond_true]
              unfold tvOf
              rw[hbs]
            | false =>
              rw[hsb,if_neg (by decide)]at hbs
              simp only[cond_false]
              unfold tvOf
              rw[hbs]
      · rw[decide_eq_false h3,if_pos (show ofE b≠0 from h3)]
        simp only[Bool.not_false,cond_true]
        rw[if_pos hfl]
        rfl
end
end Go.Proofs.YtnolgfdjcipmmaaDoor.M
namespace Go.Proofs.YtnolgfdjcipmmaaDoor.M
open Go
noncomputable section
def tree_Ctx (
              blocks:List PV) (ids:List (PV × PV)) (best:Int) (n:Int):Option (UInt32 × UInt32 × UInt32 × Vector UInt8 32 × Int × Int × List PV × (List (PV × PV))) :=
  if tvC (
          TV.mk blocks ids best) then
    bif !(
          zgk blocks n) then(if(((PV.flats (List.map (fun(z5:PV × PV)=>(Prod.fst z5)) ids)) && (PV.flats (List.map (fun(z5:PV × PV)=>(Prod.snd z5)) ids)))=true)∧((PV.flats blocks)=true) then
        some ((0:UInt32),(0:UInt32),(0:UInt32),(Vector.replicate 32 (0:UInt8)),(2:Int),best,blocks,ids)
      else none)
      else(
            if((0:Int)≤n)∧(n < (((List.length blocks):Nat):Int)) then
        if(
            TY.chk (TY.st  [(TY.arr EK.u8 32),(TY.st  [(TY.arr EK.u8 32),(TY.arr EK.u8 32),(TY.sc EK.u32),(TY.sc EK.u32),(TY.sc EK.u32)]),(TY.sc EK.i),(TY.sc EK.u32),(TY.arr EK.u64 4)]) (RC.get (RC.p 105 blocks)  [(PE.i (Int.toNat n))]))=true then
          bif decide ((((PV.scv EK.u32 (PV.fld 3 (RC.get (RC.p 105 blocks)  [(PE.i (Int.toNat n))])))+(1:UInt32)) % (8:UInt32))=(0:UInt32)) then(none)
            else(if(((PV.flats (List.map (fun(z5:PV × PV)=>(Prod.fst z5)) ids)) && (PV.flats (List.map (fun(z5:PV × PV)=>(Prod.snd z5)) ids)))=true)∧((PV.flats blocks)=true) then
              some (((PV.scv EK.u32 (PV.fld 3 (RC.get (RC.p 105 blocks)  [(PE.i (Int.toNat n))])))+(1:UInt32)),(PV.scv EK.u32 (PV.fld 2 (PV.fld 1 (RC.get (RC.p 105 blocks)  [(PE.i (Int.toNat n))])))),(PV.scv EK.u32 (PV.fld 3 (PV.fld 1 (RC.get (RC.p 105 blocks)  [(PE.i (Int.toNat n))])))),(PV.vecv EK.u8 32 (PV.fld 0 (RC.get (RC.p 105 blocks)  [(PE.i (Int.toNat n))]))),(0:Int),best,blocks,ids)
            else none)
        else none
      else none)
  else none
theorem zvZ (blocks:List PV) (ids:List (PV × PV)) (best n:Int) (h:tvC (TV.mk blocks ids best)) (hx:zgk blocks n=true→((zdd blocks n).height+1) % 8≠0) :
    tree_Ctx blocks ids best n=some (bif zgk blocks n then(zdd blocks n).height+1 else 0,(zdd blocks n).time,(zdd blocks n).bits,(zdd blocks n).id,bif zgk blocks n then 0 else 2,best,blocks,ids):=by
  have hfl:=h.flats
  rw[tree_Ctx.eq_1,if_pos h,if_pos hfl]
  obtain ⟨ks,ok,e⟩:=h.get
  cases e
  cases hh:zgk (ks.map knPV) n with
  | false =>
    rw[zuq,hh]
    rfl
  | true =>
    have hx:=hx hh
    obtain ⟨h1,h2,h3⟩:=zuA hh
    rw[h1]at hx ⊢
    have e:knOf (knPV (ks.getD n.toNat kn0))=ks.getD n.toNat kn0:=zr3 _
    have e3:PV.scv EK.u32 (PV.fld 3 (knPV (ks.getD n.toNat kn0)))=(ks.getD n.toNat kn0).height:=congrArg KN.height e
    have et:PV.scv EK.u32 (PV.fld 2 (PV.fld 1 (knPV (ks.getD n.toNat kn0))))=(ks.getD n.toNat kn0).time:=congrArg KN.time e
    have eb:PV.scv EK.u32 (PV.fld 3 (PV.fld 1 (knPV (ks.getD n.toNat kn0))))=(ks.getD n.toNat kn0).bits:=congrArg KN.bits e
    have ei:PV.vecv EK.u8 32 (PV.fld 0 (knPV (ks.getD n.toNat kn0)))=(ks.getD n.toNat kn0).id:=congrArg KN.id e
    rw[if_pos (show (0:Int)≤n∧n < (((ks.map knPV).length:Nat):Int)from zyr.1 hh),zHu h2,if_pos (show TY.chk (TY.st [TY.arr EK.u8 32,TY.st [TY.arr EK.u8 32,TY.arr EK.u8 32,TY.sc EK.u32,TY.sc EK.u32,TY.sc EK.u32],TY.sc EK.i,TY.sc EK.u32,TY.arr EK.u64 4]) (knPV (ks.getD n.toNat kn0))=true from rfl),if_pos hfl,e3,decide_eq_false hx,et,eb,ei]
    rfl
end
end Go.Proofs.YtnolgfdjcipmmaaDoor.M
namespace Go.Proofs.YtnolgfdjcipmmaaDoor.M
open Go
noncomputable section
def tree_Best (blocks:List PV) (ids:List (PV × PV)) (best:Int):Option (Int × Int × List PV × (List (PV × PV))) :=
  if tvC (TV.mk blocks ids best) then
    if(((PV.flats (List.map (fun(z4:PV × PV)=>(Prod.fst z4)) ids)) && (PV.flats (List.map (fun(z4:PV × PV)=>(Prod.snd z4)) ids)))=true)∧((PV.flats blocks)=true) then
      some (best,best,blocks,ids)
    else none
  else none
theorem ztU (blocks:List PV) (ids:List (PV × PV)) (best:Int) (h:tvC (TV.mk blocks ids best)):tree_Best blocks ids best=some (best,best,blocks,ids):=by
  rw[tree_Best.eq_1,if_pos h,if_pos h.flats]
end
end Go.Proofs.YtnolgfdjcipmmaaDoor.M
namespace Go.Proofs.YtnolgfdjcipmmaaDoor.M
open Go
noncomputable section
def tree_Len (blocks:List PV) (ids:List (PV × PV)) (best:Int):Option (Int × Int × List PV × (List (PV × PV))) :=
  if tvC (TV.mk blocks ids best) then
    if(((PV.flats (List.map (fun(z4:PV × PV)=>(Prod.fst z4)) ids)) && (PV.flats (List.map (fun(z4:PV × PV)=>(Prod.snd z4)) ids)))=true)∧((PV.flats blocks)=true) then
      some ((((List.length blocks):Nat):Int),best,blocks,ids)
    else none
  else none
theorem zxg (blocks:List PV) (ids:List (PV × PV)) (best:Int) (h:tvC (TV.mk blocks ids best)):tree_Len blocks ids best=some (((blocks.length:Nat):Int),best,blocks,ids):=by
  rw[tree_Len.eq_1,if_pos h,if_pos h.flats]
end
end Go.Proofs.YtnolgfdjcipmmaaDoor.M
namespace Go.Proofs.YtnolgfdjcipmmaaDoor.M
open Go
noncomputable section
set_option maxRecDepth 100000
set_option maxHeartbeats 0
noncomputable def zi7:Tbl:=[]
noncomputable def znv:CfgW:=mkC Tryd.prog theG zi7 12 0 false
def zhx:Nat→List Nat:=fun i=>[]
noncomputable abbrev zi1:Code:=Tryd.f25.body.getD .skip
noncomputable abbrev zna:List ResultVar:=Tryd.f25.results.toList
def zhh:List Nat:=[]
def zdw (r:Bool):CallOut:=⟨.pv (.sc .b r),[],true,[]⟩
theorem zvy  (Q:CallOut→Prop):zab znv zhx zna zhh zi1 [.pv .nilp] [] Q =
    (Q (zdw true)):=by kernel_rfl
theorem zwY  {Q:CallOut→Prop} (h:Q (zdw (tree_none_n ))):zab znv zhx zna zhh zi1 [.pv .nilp] [] Q :=
  Eq.mpr (zvy  Q) (have h:=Eq.mp (congrArg (fun r=>Q (zdw r)) (tree_none_n.eq_1 )) h; h)
def za5:Ans
  | [.pv .nilp],[]=>some (none,zdw (tree_none_n ))
  | _,_=>none
theorem zrR:TblOK Tryd.prog theG zi7:=.nil
theorem zbm:FnOK Tryd.prog theG 25 (unW za5):=by
  refine FnOK.ofC (T:=zi7) (nt:=12) (np:=0) (mv:=[]) (nf:=false) (hs:=zhh) (fn:=Tryd.f25) (body:=zi1) zrR (by kernel_rfl) (by kernel_rfl) (by kernel_rfl) (by kernel_rfl) (c:=za5) (lv:=zhx) ?_
  intro xs mem p out h hp
  unfold za5 at h
  split at h
  · cases h
    exact zwY  rfl
  · cases h
end
end Go.Proofs.YtnolgfdjcipmmaaDoor.M
namespace Go.Proofs.YtnolgfdjcipmmaaDoor.M
open Go
noncomputable section
set_option maxRecDepth 100000
set_option maxHeartbeats 0
noncomputable def zku:Tbl:=[(25,[],za5),(20,[],zgb),(21,[],zcg),(26,[],zfI),(28,[],zfh),(27,[],zdG),(29,[],zeb)]
noncomputable def zpL:CfgW:=mkC Tryd.prog theG zku 130 0 false
def ziU:Nat→List Nat:=fun i=>[]
noncomputable abbrev zkf:Code:=Tryd.f8.body.getD .skip
noncomputable abbrev zpO:List ResultVar:=Tryd.f8.results.toList
def zid:List Nat:=[]
def zeo (r:Int × Int):CallOut:=⟨.tup [.pv (.sc .i r.1),.pv (.sc .i r.2)],[],true,[]⟩
theorem zzD (h_1_Prev:Vector UInt8 32) (h_1_Root:Vector UInt8 32) (h_1_Time:UInt32) (h_1_Bits:UInt32) (h_1_Nonce:UInt32) (Q:CallOut→Prop):zab zpL ziU zpO zid zkf [.pv .nilp,.pv (.st [.arr .u8 32 h_1_Prev,.arr .u8 32 h_1_Root,.sc .u32 h_1_Time,.sc .u32 h_1_Bits,.sc .u32 h_1_Nonce])] [] Q =
    (Q (zeo ((0:Int),(1:Int)))):=by kernel_rfl
theorem zyV (h_1_Prev:Vector UInt8 32) (h_1_Root:Vector UInt8 32) (h_1_Time:UInt32) (h_1_Bits:UInt32) (h_1_Nonce:UInt32) {Q:CallOut→Prop} (h:Q (zeo (tree_Add_n h_1_Prev h_1_Root h_1_Time h_1_Bits h_1_Nonce))):zab zpL ziU zpO zid zkf [.pv .nilp,.pv (.st [.arr .u8 32 h_1_Prev,.arr .u8 32 h_1_Root,.sc .u32 h_1_Time,.sc .u32 h_1_Bits,.sc .u32 h_1_Nonce])] [] Q :=
  Eq.mpr (zzD h_1_Prev h_1_Root h_1_Time h_1_Bits h_1_Nonce Q) (have h:=Eq.mp (congrArg (fun r=>Q (zeo r)) (tree_Add_n.eq_1 h_1_Prev h_1_Root h_1_Time h_1_Bits h_1_Nonce)) h; h)
def zgG:Ans
  | [.pv .nilp,.pv (.st [.arr .u8 32 h_1_Prev,.arr .u8 32 h_1_Root,.sc .u32 h_1_Time,.sc .u32 h_1_Bits,.sc .u32 h_1_Nonce])],[]=>some (none,zeo (tree_Add_n h_1_Prev h_1_Root h_1_Time h_1_Bits h_1_Nonce))
  | _,_=>none
theorem ztj:TblOK Tryd.prog theG zku:=.cons ⟨by kernel_rfl,zbm⟩ (.cons ⟨by kernel_rfl,zkN⟩ (.cons ⟨by kernel_rfl,zex⟩ (.cons ⟨by kernel_rfl,zkQ⟩ (.cons ⟨by kernel_rfl,zhG⟩ (.cons ⟨by kernel_rfl,zfA⟩ (.cons ⟨by kernel_rfl,ziS⟩ (.nil)))))))
theorem zwQ:FnOK Tryd.prog theG 8 (unW zgG):=by
  refine FnOK.ofC (T:=zku) (nt:=130) (np:=0) (mv:=[]) (nf:=false) (hs:=zid) (fn:=Tryd.f8) (body:=zkf) ztj (by kernel_rfl) (by kernel_rfl) (by kernel_rfl) (by kernel_rfl) (c:=zgG) (lv:=ziU) ?_
  intro xs mem p out h hp
  unfold zgG at h
  split at h
  · cases h
    exact zyV _ _ _ _ _ rfl
  · cases h
end
end Go.Proofs.YtnolgfdjcipmmaaDoor.M
namespace Go.Proofs.YtnolgfdjcipmmaaDoor.M
open Go
noncomputable section
set_option maxRecDepth 100000
set_option maxHeartbeats 0
noncomputable def ziZ:Tbl:=[]
noncomputable def zno:CfgW:=mkC Tryd.prog theG ziZ 12 0 false
def zhd:Nat→List Nat:=fun i=>[]
noncomputable abbrev zje:Code:=Tryd.f25.body.getD .skip
noncomputable abbrev zn1:List ResultVar:=Tryd.f25.results.toList
def zgX:List Nat:=[]
def zdv (r:Bool):CallOut:=⟨.pv (.sc .b r),[],true,[]⟩
theorem zvS  (Q:CallOut→Prop):zab zno zhd zn1 zgX zje [.rp (.st [.sp 105 [],.nilm,.sc .i 0])] [] Q =
    (Q (zdv true)):=by kernel_rfl
theorem zvM  {Q:CallOut→Prop} (h:Q (zdv (tree_none_z ))):zab zno zhd zn1 zgX zje [.rp (.st [.sp 105 [],.nilm,.sc .i 0])] [] Q :=
  Eq.mpr (zvS  Q) (have h:=Eq.mp (congrArg (fun r=>Q (zdv r)) (tree_none_z.eq_1 )) h; h)
def za4:Ans
  | [.rp (.st [.sp 105 [],.nilm,.sc .i 0])],[]=>some (none,zdv (tree_none_z ))
  | _,_=>none
theorem zrl:TblOK Tryd.prog theG ziZ:=.nil
theorem zbl:FnOK Tryd.prog theG 25 (unW za4):=by
  refine FnOK.ofC (T:=ziZ) (nt:=12) (np:=0) (mv:=[]) (nf:=false) (hs:=zgX) (fn:=Tryd.f25) (body:=zje) zrl (by kernel_rfl) (by kernel_rfl) (by kernel_rfl) (by kernel_rfl) (c:=za4) (lv:=zhd) ?_
  intro xs mem p out h hp
  unfold za4 at h
  split at h
  · cases h
    exact zvM  rfl
  · cases h
end
end Go.Proofs.YtnolgfdjcipmmaaDoor.M
namespace Go.Proofs.YtnolgfdjcipmmaaDoor.M
open Go
noncomputable section
set_option maxRecDepth 100000
set_option maxHeartbeats 0
noncomputable def zkj:Tbl:=[(25,[],za4),(20,[],zgb),(21,[],zcg),(26,[],zfI),(28,[],zfh),(27,[],zdG),(29,[],zeb)]
noncomputable def zpD:CfgW:=mkC Tryd.prog theG zkj 130 0 false
def ziw:Nat→List Nat:=fun i=>[]
noncomputable abbrev zj7:Code:=Tryd.f8.body.getD .skip
noncomputable abbrev zpF:List ResultVar:=Tryd.f8.results.toList
def ziJ:List Nat:=[]
def zes (r:Int × Int):CallOut:=⟨.tup [.pv (.sc .i r.1),.pv (.sc .i r.2)],[],true,[]⟩
theorem zyR (h_1_Prev:Vector UInt8 32) (h_1_Root:Vector UInt8 32) (h_1_Time:UInt32) (h_1_Bits:UInt32) (h_1_Nonce:UInt32) (Q:CallOut→Prop):zab zpD ziw zpF ziJ zj7 [.rp (.st [.sp 105 [],.nilm,.sc .i 0]),.pv (.st [.arr .u8 32 h_1_Prev,.arr .u8 32 h_1_Root,.sc .u32 h_1_Time,.sc .u32 h_1_Bits,.sc .u32 h_1_Nonce])] [] Q =
    (Q (zes ((0:Int),(1:Int)))):=by kernel_rfl
theorem zzv (h_1_Prev:Vector UInt8 32) (h_1_Root:Vector UInt8 32) (h_1_Time:UInt32) (h_1_Bits:UInt32) (h_1_Nonce:UInt32) {Q:CallOut→Prop} (h:Q (zes (tree_Add_z h_1_Prev h_1_Root h_1_Time h_1_Bits h_1_Nonce))):zab zpD ziw zpF ziJ zj7 [.rp (.st [.sp 105 [],.nilm,.sc .i 0]),.pv (.st [.arr .u8 32 h_1_Prev,.arr .u8 32 h_1_Root,.sc .u32 h_1_Time,.sc .u32 h_1_Bits,.sc .u32 h_1_Nonce])] [] Q :=
  Eq.mpr (zyR h_1_Prev h_1_Root h_1_Time h_1_Bits h_1_Nonce Q) (have h:=Eq.mp (congrArg (fun r=>Q (zes r)) (tree_Add_z.eq_1 h_1_Prev h_1_Root h_1_Time h_1_Bits h_1_Nonce)) h; h)
def zgp:Ans
  | [.rp (.st [.sp 105 [],.nilm,.sc .i 0]),.pv (.st [.arr .u8 32 h_1_Prev,.arr .u8 32 h_1_Root,.sc .u32 h_1_Time,.sc .u32 h_1_Bits,.sc .u32 h_1_Nonce])],[]=>some (none,zes (tree_Add_z h_1_Prev h_1_Root h_1_Time h_1_Bits h_1_Nonce))
  | _,_=>none
theorem zsV:TblOK Tryd.prog theG zkj:=.cons ⟨by kernel_rfl,zbl⟩ (.cons ⟨by kernel_rfl,zkN⟩ (.cons ⟨by kernel_rfl,zex⟩ (.cons ⟨by kernel_rfl,zkQ⟩ (.cons ⟨by kernel_rfl,zhG⟩ (.cons ⟨by kernel_rfl,zfA⟩ (.cons ⟨by kernel_rfl,ziS⟩ (.nil)))))))
theorem zwc:FnOK Tryd.prog theG 8 (unW zgp):=by
  refine FnOK.ofC (T:=zkj) (nt:=130) (np:=0) (mv:=[]) (nf:=false) (hs:=ziJ) (fn:=Tryd.f8) (body:=zj7) zsV (by kernel_rfl) (by kernel_rfl) (by kernel_rfl) (by kernel_rfl) (c:=zgp) (lv:=ziw) ?_
  intro xs mem p out h hp
  unfold zgp at h
  split at h
  · cases h
    exact zzv _ _ _ _ _ rfl
  · cases h
end
end Go.Proofs.YtnolgfdjcipmmaaDoor.M
namespace Go.Proofs.YtnolgfdjcipmmaaDoor.M
open Go
noncomputable section
set_option maxRecDepth 100000
set_option maxHeartbeats 0
noncomputable def zjk:Tbl:=[(25,[],za5)]
noncomputable def znL:CfgW:=mkC Tryd.prog theG zjk 22 0 false
def zha:Nat→List Nat:=fun i=>[]
noncomputable abbrev zia:Code:=Tryd.f14.body.getD .skip
noncomputable abbrev zmQ:List ResultVar:=Tryd.f14.results.toList
def zhf:List Nat:=[]
def zdq (r:Int × Int):CallOut:=⟨.tup [.pv (.sc .i r.1),.pv (.sc .i r.2)],[],true,[]⟩
theorem zxo (id:Vector UInt8 32) (Q:CallOut→Prop):zab znL zha zmQ zhf zia [.pv .nilp,.pv (.arr .u8 32 id)] [] Q =
    (Q (zdq ((0:Int),(1:Int)))):=by kernel_rfl
theorem zv1 (id:Vector UInt8 32) {Q:CallOut→Prop} (h:Q (zdq (tree_Find_n id))):zab znL zha zmQ zhf zia [.pv .nilp,.pv (.arr .u8 32 id)] [] Q :=
  Eq.mpr (zxo id Q) (have h:=Eq.mp (congrArg (fun r=>Q (zdq r)) (tree_Find_n.eq_1 id)) h; h)
def zfx:Ans
  | [.pv .nilp,.pv (.arr .u8 32 id)],[]=>some (none,zdq (tree_Find_n id))
  | _,_=>none
theorem zre:TblOK Tryd.prog theG zjk:=.cons ⟨by kernel_rfl,zbm⟩ (.nil)
theorem zsZ:FnOK Tryd.prog theG 14 (unW zfx):=by
  refine FnOK.ofC (T:=zjk) (nt:=22) (np:=0) (mv:=[]) (nf:=false) (hs:=zhf) (fn:=Tryd.f14) (body:=zia) zre (by kernel_rfl) (by kernel_rfl) (by kernel_rfl) (by kernel_rfl) (c:=zfx) (lv:=zha) ?_
  intro xs mem p out h hp
  unfold zfx at h
  split at h
  · cases h
    exact zv1 _ rfl
  · cases h
end
end Go.Proofs.YtnolgfdjcipmmaaDoor.M
namespace Go.Proofs.YtnolgfdjcipmmaaDoor.M
open Go
noncomputable section
set_option maxRecDepth 100000
set_option maxHeartbeats 0
noncomputable def zjr:Tbl:=[(25,[],za4)]
noncomputable def znz:CfgW:=mkC Tryd.prog theG zjr 22 0 false
def zhg:Nat→List Nat:=fun i=>[]
noncomputable abbrev ziV:Code:=Tryd.f14.body.getD .skip
noncomputable abbrev znR:List ResultVar:=Tryd.f14.results.toList
def zhy:List Nat:=[]
def zdL (r:Int × Int):CallOut:=⟨.tup [.pv (.sc .i r.1),.pv (.sc .i r.2)],[],true,[]⟩
theorem zvp (id:Vector UInt8 32) (Q:CallOut→Prop):zab znz zhg znR zhy ziV [.rp (.st [.sp 105 [],.nilm,.sc .i 0]),.pv (.arr .u8 32 id)] [] Q =
    (Q (zdL ((0:Int),(1:Int)))):=by kernel_rfl
theorem zxs (id:Vector UInt8 32) {Q:CallOut→Prop} (h:Q (zdL (tree_Find_z id))):zab znz zhg znR zhy ziV [.rp (.st [.sp 105 [],.nilm,.sc .i 0]),.pv (.arr .u8 32 id)] [] Q :=
  Eq.mpr (zvp id Q) (have h:=Eq.mp (congrArg (fun r=>Q (zdL r)) (tree_Find_z.eq_1 id)) h; h)
def zfl:Ans
  | [.rp (.st [.sp 105 [],.nilm,.sc .i 0]),.pv (.arr .u8 32 id)],[]=>some (none,zdL (tree_Find_z id))
  | _,_=>none
theorem zsJ:TblOK Tryd.prog theG zjr:=.cons ⟨by kernel_rfl,zbl⟩ (.nil)
theorem zti:FnOK Tryd.prog theG 14 (unW zfl):=by
  refine FnOK.ofC (T:=zjr) (nt:=22) (np:=0) (mv:=[]) (nf:=false) (hs:=zhy) (fn:=Tryd.f14) (body:=ziV) zsJ (by kernel_rfl) (by kernel_rfl) (by kernel_rfl) (by kernel_rfl) (c:=zfl) (lv:=zhg) ?_
  intro xs mem p out h hp
  unfold zfl at h
  split at h
  · cases h
    exact zxs _ rfl
  · cases h
end
end Go.Proofs.YtnolgfdjcipmmaaDoor.M
namespace Go.Proofs.YtnolgfdjcipmmaaDoor.M
open Go
noncomputable section
set_option maxRecDepth 100000
set_option maxHeartbeats 0
noncomputable def zoW:Tbl:=[]
noncomputable def zuF:CfgW:=mkC Tryd.prog theG zoW 16 1 false
def zmH:Nat→List Nat:=fun i=>[]
noncomputable abbrev zoC:Code:=Tryd.f34.body.getD .skip
noncomputable abbrev zu2:List ResultVar:=Tryd.f34.results.toList
def zlT:List Nat:=[0]
def zdo (r:Bool × Int × List PV × (List (PV × PV))):CallOut:=⟨.pv (.sc .b r.1),[(60000,.box (.st [.o 60001,.o 60002,.pv (.sc .i r.2.1)])),(60001,.row (.p 105 r.2.2.1) false),(60002,.map r.2.2.2)],true,[(0,.p 60000 [])]⟩
theorem zDY (blocks:List PV) (ids:List (PV × PV)) (best:Int) (n:Int) (Q:CallOut→Prop):zab zuF zmH zu2 zlT zoC [.p 60000 [],.pv (.sc .i n)] [(60000,.box (.st [.o 60001,.o 60002,.pv (.sc .i best)])),(60001,.row (.p 105 blocks) false),(60002,.map ids)] Q =
    (zal (eqb (decide ((0:Int)≤n)) true) (((((PV.flats (List.map (fun(z5:PV × PV)=>(Prod.fst z5)) ids)) && (PV.flats (List.map (fun(z5:PV × PV)=>(Prod.snd z5)) ids)))=true)∧((PV.flats blocks)=true))∧(Q (zdo ((bif true then(decide (n < (((List.length blocks):Nat):Int)))else false),best,blocks,ids)))) (((((PV.flats (List.map (fun(z5:PV × PV)=>(Prod.fst z5)) ids)) && (PV.flats (List.map (fun(z5:PV × PV)=>(Prod.snd z5)) ids)))=true)∧((PV.flats blocks)=true))∧(Q (zdo (false,best,blocks,ids))))):=by kernel_rfl
theorem zDJ (blocks:List PV) (ids:List (PV × PV)) (best:Int) (n:Int) {r} {Q:CallOut→Prop} (h:tree_has blocks ids best n=some r) (hQ:Q (zdo r)):zab zuF zmH zu2 zlT zoC [.p 60000 [],.pv (.sc .i n)] [(60000,.box (.st [.o 60001,.o 60002,.pv (.sc .i best)])),(60001,.row (.p 105 blocks) false),(60002,.map ids)] Q :=
  Eq.mpr (zDY blocks ids best n Q) (have h:=(tree_has.eq_1 blocks ids best n).symm.trans h; zae h (fun h=>zad h fun hc0 h=>zam (Q:=Q) (e:=zdo) h hQ) (fun h=>zad h fun hc0 h=>zam (Q:=Q) (e:=zdo) h hQ))
def zbJ:Ans
  | [.p 60000 [],.pv (.sc .i n)],[(60000,.box (.st [.o 60001,.o 60002,.pv (.sc .i best)])),(60001,.row (.p 105 blocks) false),(60002,.map ids)]=>some (some (tvC (TV.mk blocks ids best)),zdo ((zgk blocks n,best,blocks,ids)))
  | _,_=>none
theorem zyu:TblOK Tryd.prog theG zoW:=.nil
theorem zb9:FnOK Tryd.prog theG 34 (unW zbJ):=by
  refine FnOK.ofC (T:=zoW) (nt:=16) (np:=1) (mv:=[]) (nf:=false) (hs:=zlT) (fn:=Tryd.f34) (body:=zoC) zyu (by kernel_rfl) (by kernel_rfl) (by kernel_rfl) (by kernel_rfl) (c:=zbJ) (lv:=zmH) ?_
  intro xs mem p out h hp
  unfold zbJ at h
  split at h
  · cases h
    exact zDJ _ _ _ _ (zvo _ _ _ _ hp) rfl
  · cases h
end
end Go.Proofs.YtnolgfdjcipmmaaDoor.M
namespace Go.Proofs.YtnolgfdjcipmmaaDoor.M
open Go
noncomputable section
set_option maxRecDepth 100000
set_option maxHeartbeats 0
noncomputable def zg2:Tbl:=[(25,[],za5),(34,[true,false],zbJ)]
noncomputable def zlI:CfgW:=mkC Tryd.prog theG zg2 23 0 false
def zfY:Nat→List Nat:=fun i=>[]
noncomputable abbrev zhv:Code:=Tryd.f10.body.getD .skip
noncomputable abbrev zlw:List ResultVar:=Tryd.f10.results.toList
def zgj:List Nat:=[]
def zc1 (r:Vector UInt8 32 × Vector UInt8 32 × Vector UInt8 32 × UInt32 × UInt32 × UInt32 × Int × UInt32 × Vector UInt64 4 × Int):CallOut:=⟨.tup [.pv (.st [.arr .u8 32 r.1,.st [.arr .u8 32 r.2.1,.arr .u8 32 r.2.2.1,.sc .u32 r.2.2.2.1,.sc .u32 r.2.2.2.2.1,.sc .u32 r.2.2.2.2.2.1],.sc .i r.2.2.2.2.2.2.1,.sc .u32 r.2.2.2.2.2.2.2.1,.arr .u64 4 r.2.2.2.2.2.2.2.2.1]),.pv (.sc .i r.2.2.2.2.2.2.2.2.2)],[],true,[]⟩
theorem ztS (n:Int) (Q:CallOut→Prop):zab zlI zfY zlw zgj zhv [.pv .nilp,.pv (.sc .i n)] [] Q =
    (Q (zc1 ((Vector.replicate 32 (0:UInt8)),(Vector.replicate 32 (0:UInt8)),(Vector.replicate 32 (0:UInt8)),(0:UInt32),(0:UInt32),(0:UInt32),(0:Int),(0:UInt32),(Vector.replicate 4 (0:UInt64)),(1:Int)))):=by kernel_rfl
theorem zs1 (n:Int) {Q:CallOut→Prop} (h:Q (zc1 (tree_Known_n n))):zab zlI zfY zlw zgj zhv [.pv .nilp,.pv (.sc .i n)] [] Q :=
  Eq.mpr (ztS n Q) (have h:=Eq.mp (congrArg (fun r=>Q (zc1 r)) (tree_Known_n.eq_1 n)) h; h)
def zeE:Ans
  | [.pv .nilp,.pv (.sc .i n)],[]=>some (none,zc1 (tree_Known_n n))
  | _,_=>none
theorem zp9:TblOK Tryd.prog theG zg2:=.cons ⟨by kernel_rfl,zbm⟩ (.cons ⟨by kernel_rfl,zb9⟩ (.nil))
theorem zsA:FnOK Tryd.prog theG 10 (unW zeE):=by
  refine FnOK.ofC (T:=zg2) (nt:=23) (np:=0) (mv:=[]) (nf:=false) (hs:=zgj) (fn:=Tryd.f10) (body:=zhv) zp9 (by kernel_rfl) (by kernel_rfl) (by kernel_rfl) (by kernel_rfl) (c:=zeE) (lv:=zfY) ?_
  intro xs mem p out h hp
  unfold zeE at h
  split at h
  · cases h
    exact zs1 _ rfl
  · cases h
end
end Go.Proofs.YtnolgfdjcipmmaaDoor.M
namespace Go.Proofs.YtnolgfdjcipmmaaDoor.M
open Go
noncomputable section
set_option maxRecDepth 100000
set_option maxHeartbeats 0
noncomputable def zg7:Tbl:=[(25,[],za4),(34,[true,false],zbJ)]
noncomputable def zly:CfgW:=mkC Tryd.prog theG zg7 23 0 false
def zfK:Nat→List Nat:=fun i=>[]
noncomputable abbrev zhb:Code:=Tryd.f10.body.getD .skip
noncomputable abbrev zlM:List ResultVar:=Tryd.f10.results.toList
def zf7:List Nat:=[]
def zc0 (r:Vector UInt8 32 × Vector UInt8 32 × Vector UInt8 32 × UInt32 × UInt32 × UInt32 × Int × UInt32 × Vector UInt64 4 × Int):CallOut:=⟨.tup [.pv (.st [.arr .u8 32 r.1,.st [.arr .u8 32 r.2.1,.arr .u8 32 r.2.2.1,.sc .u32 r.2.2.2.1,.sc .u32 r.2.2.2.2.1,.sc .u32 r.2.2.2.2.2.1],.sc .i r.2.2.2.2.2.2.1,.sc .u32 r.2.2.2.2.2.2.2.1,.arr .u64 4 r.2.2.2.2.2.2.2.2.1]),.pv (.sc .i r.2.2.2.2.2.2.2.2.2)],[],true,[]⟩
theorem zsO (n:Int) (Q:CallOut→Prop):zab zly zfK zlM zf7 zhb [.rp (.st [.sp 105 [],.nilm,.sc .i 0]),.pv (.sc .i n)] [] Q =
    (Q (zc0 ((Vector.replicate 32 (0:UInt8)),(Vector.replicate 32 (0:UInt8)),(Vector.replicate 32 (0:UInt8)),(0:UInt32),(0:UInt32),(0:UInt32),(0:Int),(0:UInt32),(Vector.replicate 4 (0:UInt64)),(1:Int)))):=by kernel_rfl
theorem ztw (n:Int) {Q:CallOut→Prop} (h:Q (zc0 (tree_Known_z n))):zab zly zfK zlM zf7 zhb [.rp (.st [.sp 105 [],.nilm,.sc .i 0]),.pv (.sc .i n)] [] Q :=
  Eq.mpr (zsO n Q) (have h:=Eq.mp (congrArg (fun r=>Q (zc0 r)) (tree_Known_z.eq_1 n)) h; h)
def zem:Ans
  | [.rp (.st [.sp 105 [],.nilm,.sc .i 0]),.pv (.sc .i n)],[]=>some (none,zc0 (tree_Known_z n))
  | _,_=>none
theorem zp4:TblOK Tryd.prog theG zg7:=.cons ⟨by kernel_rfl,zbl⟩ (.cons ⟨by kernel_rfl,zb9⟩ (.nil))
theorem zru:FnOK Tryd.prog theG 10 (unW zem):=by
  refine FnOK.ofC (T:=zg7) (nt:=23) (np:=0) (mv:=[]) (nf:=false) (hs:=zf7) (fn:=Tryd.f10) (body:=zhb) zp4 (by kernel_rfl) (by kernel_rfl) (by kernel_rfl) (by kernel_rfl) (c:=zem) (lv:=zfK) ?_
  intro xs mem p out h hp
  unfold zem at h
  split at h
  · cases h
    exact ztw _ rfl
  · cases h
end
end Go.Proofs.YtnolgfdjcipmmaaDoor.M
namespace Go.Proofs.YtnolgfdjcipmmaaDoor.M
open Go
noncomputable section
set_option maxRecDepth 100000
set_option maxHeartbeats 0
noncomputable def zkt:Tbl:=[(25,[],za5),(34,[true,false],zbJ),(37,[],zcM)]
noncomputable def zpk:CfgW:=mkC Tryd.prog theG zkt 87 0 false
def ziM:Nat→List Nat:=fun i=>bif Nat.beq i 3000001 then [9,2,4,6,7,8]else []
noncomputable abbrev zjI:Code:=Tryd.f15.body.getD .skip
noncomputable abbrev zpP:List ResultVar:=Tryd.f15.results.toList
def ziO:List Nat:=[]
def zeI (r:UInt32 × UInt32 × UInt32 × Vector UInt8 32 × Int):CallOut:=⟨.tup [.pv (.st [.sc .u32 r.1,.sc .u32 r.2.1,.sc .u32 r.2.2.1,.arr .u8 32 r.2.2.2.1]),.pv (.sc .i r.2.2.2.2)],[],true,[]⟩
theorem zzg (n:Int) (Q:CallOut→Prop):zab zpk ziM zpP ziO zjI [.pv .nilp,.pv (.sc .i n)] [] Q =
    (Q (zeI ((0:UInt32),(0:UInt32),(0:UInt32),(Vector.replicate 32 (0:UInt8)),(1:Int)))):=by kernel_rfl
theorem zzB (n:Int) {Q:CallOut→Prop} (h:Q (zeI (tree_Ctx_n n))):zab zpk ziM zpP ziO zjI [.pv .nilp,.pv (.sc .i n)] [] Q :=
  Eq.mpr (zzg n Q) (have h:=Eq.mp (congrArg (fun r=>Q (zeI r)) (tree_Ctx_n.eq_1 n)) h; h)
def zgy:Ans
  | [.pv .nilp,.pv (.sc .i n)],[]=>some (none,zeI (tree_Ctx_n n))
  | _,_=>none
theorem ztz:TblOK Tryd.prog theG zkt:=.cons ⟨by kernel_rfl,zbm⟩ (.cons ⟨by kernel_rfl,zb9⟩ (.cons ⟨by kernel_rfl,zgV⟩ (.nil)))
theorem zvq:FnOK Tryd.prog theG 15 (unW zgy):=by
  refine FnOK.ofC (T:=zkt) (nt:=87) (np:=0) (mv:=[]) (nf:=false) (hs:=ziO) (fn:=Tryd.f15) (body:=zjI) ztz (by kernel_rfl) (by kernel_rfl) (by kernel_rfl) (by kernel_rfl) (c:=zgy) (lv:=ziM) ?_
  intro xs mem p out h hp
  unfold zgy at h
  split at h
  · cases h
    exact zzB _ rfl
  · cases h
end
end Go.Proofs.YtnolgfdjcipmmaaDoor.M
namespace Go.Proofs.YtnolgfdjcipmmaaDoor.M
open Go
noncomputable section
set_option maxRecDepth 100000
set_option maxHeartbeats 0
noncomputable def zjM:Tbl:=[(25,[],za4),(34,[true,false],zbJ),(37,[],zcM)]
noncomputable def zpU:CfgW:=mkC Tryd.prog theG zjM 87 0 false
def zh7:Nat→List Nat:=fun i=>bif Nat.beq i 3000001 then [9,2,4,6,7,8]else []
noncomputable abbrev zjU:Code:=Tryd.f15.body.getD .skip
noncomputable abbrev zpG:List ResultVar:=Tryd.f15.results.toList
def zh8:List Nat:=[]
def zei (r:UInt32 × UInt32 × UInt32 × Vector UInt8 32 × Int):CallOut:=⟨.tup [.pv (.st [.sc .u32 r.1,.sc .u32 r.2.1,.sc .u32 r.2.2.1,.arr .u8 32 r.2.2.2.1]),.pv (.sc .i r.2.2.2.2)],[],true,[]⟩
theorem zxZ (n:Int) (Q:CallOut→Prop):zab zpU zh7 zpG zh8 zjU [.rp (.st [.sp 105 [],.nilm,.sc .i 0]),.pv (.sc .i n)] [] Q =
    (Q (zei ((0:UInt32),(0:UInt32),(0:UInt32),(Vector.replicate 32 (0:UInt8)),(1:Int)))):=by kernel_rfl
theorem zxy (n:Int) {Q:CallOut→Prop} (h:Q (zei (tree_Ctx_z n))):zab zpU zh7 zpG zh8 zjU [.rp (.st [.sp 105 [],.nilm,.sc .i 0]),.pv (.sc .i n)] [] Q :=
  Eq.mpr (zxZ n Q) (have h:=Eq.mp (congrArg (fun r=>Q (zei r)) (tree_Ctx_z.eq_1 n)) h; h)
def zgw:Ans
  | [.rp (.st [.sp 105 [],.nilm,.sc .i 0]),.pv (.sc .i n)],[]=>some (none,zei (tree_Ctx_z n))
  | _,_=>none
theorem zs4:TblOK Tryd.prog theG zjM:=.cons ⟨by kernel_rfl,zbl⟩ (.cons ⟨by kernel_rfl,zb9⟩ (.cons ⟨by kernel_rfl,zgV⟩ (.nil)))
theorem zwO:FnOK Tryd.prog theG 15 (unW zgw):=by
  refine FnOK.ofC (T:=zjM) (nt:=87) (np:=0) (mv:=[]) (nf:=false) (hs:=zh8) (fn:=Tryd.f15) (body:=zjU) zs4 (by kernel_rfl) (by kernel_rfl) (by kernel_rfl) (by kernel_rfl) (c:=zgw) (lv:=zh7) ?_
  intro xs mem p out h hp
  unfold zgw at h
  split at h
  · cases h
    exact zxy _ rfl
  · cases h
end
end Go.Proofs.YtnolgfdjcipmmaaDoor.M
namespace Go.Proofs.YtnolgfdjcipmmaaDoor.M
open Go
noncomputable section
set_option maxRecDepth 100000
set_option maxHeartbeats 0
noncomputable def zhk:Tbl:=[(25,[],za5),(34,[true,false],zbJ)]
noncomputable def zlt:CfgW:=mkC Tryd.prog theG zhk 22 0 false
def zgf:Nat→List Nat:=fun i=>[]
noncomputable abbrev zg5:Code:=Tryd.f16.body.getD .skip
noncomputable abbrev zlK:List ResultVar:=Tryd.f16.results.toList
def zf6:List Nat:=[]
def zc5 (r:Int × List Int):CallOut:=⟨.tup [.o 60000,.pv (.sc .i r.1)],[(60000,.row (.s .i r.2) false)],true,[]⟩
theorem zth (n:Int) (Q:CallOut→Prop):zab zlt zgf zlK zf6 zg5 [.pv .nilp,.pv (.sc .i n)] [] Q =
    (Q (zc5 ((1:Int),([]:List Int)))):=by kernel_rfl
theorem ztR (n:Int) {Q:CallOut→Prop} (h:Q (zc5 (tree_Chain_n n))):zab zlt zgf zlK zf6 zg5 [.pv .nilp,.pv (.sc .i n)] [] Q :=
  Eq.mpr (zth n Q) (have h:=Eq.mp (congrArg (fun r=>Q (zc5 r)) (tree_Chain_n.eq_1 n)) h; h)
def zez:Ans
  | [.pv .nilp,.pv (.sc .i n)],[]=>some (none,zc5 (tree_Chain_n n))
  | _,_=>none
theorem zqg:TblOK Tryd.prog theG zhk:=.cons ⟨by kernel_rfl,zbm⟩ (.cons ⟨by kernel_rfl,zb9⟩ (.nil))
theorem zso:FnOK Tryd.prog theG 16 (unW zez):=by
  refine FnOK.ofC (T:=zhk) (nt:=22) (np:=0) (mv:=[]) (nf:=false) (hs:=zf6) (fn:=Tryd.f16) (body:=zg5) zqg (by kernel_rfl) (by kernel_rfl) (by kernel_rfl) (by kernel_rfl) (c:=zez) (lv:=zgf) ?_
  intro xs mem p out h hp
  unfold zez at h
  split at h
  · cases h
    exact ztR _ rfl
  · cases h
end
end Go.Proofs.YtnolgfdjcipmmaaDoor.M
namespace Go.Proofs.YtnolgfdjcipmmaaDoor.M
open Go
noncomputable section
set_option maxRecDepth 100000
set_option maxHeartbeats 0
noncomputable def zgQ:Tbl:=[(25,[],za4),(34,[true,false],zbJ)]
noncomputable def zlN:CfgW:=mkC Tryd.prog theG zgQ 22 0 false
def zfZ:Nat→List Nat:=fun i=>[]
noncomputable abbrev zhz:Code:=Tryd.f16.body.getD .skip
noncomputable abbrev zlu:List ResultVar:=Tryd.f16.results.toList
def zfL:List Nat:=[]
def zcY (r:Int × List Int):CallOut:=⟨.tup [.o 60000,.pv (.sc .i r.1)],[(60000,.row (.s .i r.2) false)],true,[]⟩
theorem ztb (n:Int) (Q:CallOut→Prop):zab zlN zfZ zlu zfL zhz [.rp (.st [.sp 105 [],.nilm,.sc .i 0]),.pv (.sc .i n)] [] Q =
    (Q (zcY ((1:Int),([]:List Int)))):=by kernel_rfl
theorem ztu (n:Int) {Q:CallOut→Prop} (h:Q (zcY (tree_Chain_z n))):zab zlN zfZ zlu zfL zhz [.rp (.st [.sp 105 [],.nilm,.sc .i 0]),.pv (.sc .i n)] [] Q :=
  Eq.mpr (ztb n Q) (have h:=Eq.mp (congrArg (fun r=>Q (zcY r)) (tree_Chain_z.eq_1 n)) h; h)
def zep:Ans
  | [.rp (.st [.sp 105 [],.nilm,.sc .i 0]),.pv (.sc .i n)],[]=>some (none,zcY (tree_Chain_z n))
  | _,_=>none
theorem zqc:TblOK Tryd.prog theG zgQ:=.cons ⟨by kernel_rfl,zbl⟩ (.cons ⟨by kernel_rfl,zb9⟩ (.nil))
theorem zst:FnOK Tryd.prog theG 16 (unW zep):=by
  refine FnOK.ofC (T:=zgQ) (nt:=22) (np:=0) (mv:=[]) (nf:=false) (hs:=zfL) (fn:=Tryd.f16) (body:=zhz) zqc (by kernel_rfl) (by kernel_rfl) (by kernel_rfl) (by kernel_rfl) (c:=zep) (lv:=zfZ) ?_
  intro xs mem p out h hp
  unfold zep at h
  split at h
  · cases h
    exact ztu _ rfl
  · cases h
end
end Go.Proofs.YtnolgfdjcipmmaaDoor.M
namespace Go.Proofs.YtnolgfdjcipmmaaDoor.M
open Go
noncomputable section
set_option maxRecDepth 100000
set_option maxHeartbeats 0
noncomputable def zjf:Tbl:=[(25,[],za5),(34,[true,false],zbJ)]
noncomputable def znh:CfgW:=mkC Tryd.prog theG zjf 45 0 false
def zho:Nat→List Nat:=fun i=>bif Nat.beq i 1 then [0,1,2]else []
noncomputable abbrev ziK:Code:=Tryd.f17.body.getD .skip
noncomputable abbrev znB:List ResultVar:=Tryd.f17.results.toList
def zgU:List Nat:=[]
def zdD (r:Int × Int):CallOut:=⟨.tup [.pv (.sc .i r.1),.pv (.sc .i r.2)],[],true,[]⟩
theorem zws (a:Int) (b:Int) (Q:CallOut→Prop):zab znh zho znB zgU ziK [.pv .nilp,.pv (.sc .i a),.pv (.sc .i b)] [] Q =
    (Q (zdD ((0:Int),(1:Int)))):=by kernel_rfl
theorem zwr (a:Int) (b:Int) {Q:CallOut→Prop} (h:Q (zdD (tree_Fork_n a b))):zab znh zho znB zgU ziK [.pv .nilp,.pv (.sc .i a),.pv (.sc .i b)] [] Q :=
  Eq.mpr (zws a b Q) (have h:=Eq.mp (congrArg (fun r=>Q (zdD r)) (tree_Fork_n.eq_1 a b)) h; h)
def zfr:Ans
  | [.pv .nilp,.pv (.sc .i a),.pv (.sc .i b)],[]=>some (none,zdD (tree_Fork_n a b))
  | _,_=>none
theorem zsy:TblOK Tryd.prog theG zjf:=.cons ⟨by kernel_rfl,zbm⟩ (.cons ⟨by kernel_rfl,zb9⟩ (.nil))
theorem zte:FnOK Tryd.prog theG 17 (unW zfr):=by
  refine FnOK.ofC (T:=zjf) (nt:=45) (np:=0) (mv:=[]) (nf:=false) (hs:=zgU) (fn:=Tryd.f17) (body:=ziK) zsy (by kernel_rfl) (by kernel_rfl) (by kernel_rfl) (by kernel_rfl) (c:=zfr) (lv:=zho) ?_
  intro xs mem p out h hp
  unfold zfr at h
  split at h
  · cases h
    exact zwr _ _ rfl
  · cases h
end
end Go.Proofs.YtnolgfdjcipmmaaDoor.M
namespace Go.Proofs.YtnolgfdjcipmmaaDoor.M
open Go
noncomputable section
set_option maxRecDepth 100000
set_option maxHeartbeats 0
noncomputable def zio:Tbl:=[(25,[],za4),(34,[true,false],zbJ)]
noncomputable def zm5:CfgW:=mkC Tryd.prog theG zio 45 0 false
def zg0:Nat→List Nat:=fun i=>bif Nat.beq i 1 then [0,1,2]else []
noncomputable abbrev zi2:Code:=Tryd.f17.body.getD .skip
noncomputable abbrev zni:List ResultVar:=Tryd.f17.results.toList
def zgN:List Nat:=[]
def zdI (r:Int × Int):CallOut:=⟨.tup [.pv (.sc .i r.1),.pv (.sc .i r.2)],[],true,[]⟩
theorem zwZ (a:Int) (b:Int) (Q:CallOut→Prop):zab zm5 zg0 zni zgN zi2 [.rp (.st [.sp 105 [],.nilm,.sc .i 0]),.pv (.sc .i a),.pv (.sc .i b)] [] Q =
    (Q (zdI ((0:Int),(1:Int)))):=by kernel_rfl
theorem zwW (a:Int) (b:Int) {Q:CallOut→Prop} (h:Q (zdI (tree_Fork_z a b))):zab zm5 zg0 zni zgN zi2 [.rp (.st [.sp 105 [],.nilm,.sc .i 0]),.pv (.sc .i a),.pv (.sc .i b)] [] Q :=
  Eq.mpr (zwZ a b Q) (have h:=Eq.mp (congrArg (fun r=>Q (zdI r)) (tree_Fork_z.eq_1 a b)) h; h)
def zff:Ans
  | [.rp (.st [.sp 105 [],.nilm,.sc .i 0]),.pv (.sc .i a),.pv (.sc .i b)],[]=>some (none,zdI (tree_Fork_z a b))
  | _,_=>none
theorem zqH:TblOK Tryd.prog theG zio:=.cons ⟨by kernel_rfl,zbl⟩ (.cons ⟨by kernel_rfl,zb9⟩ (.nil))
theorem ztO:FnOK Tryd.prog theG 17 (unW zff):=by
  refine FnOK.ofC (T:=zio) (nt:=45) (np:=0) (mv:=[]) (nf:=false) (hs:=zgN) (fn:=Tryd.f17) (body:=zi2) zqH (by kernel_rfl) (by kernel_rfl) (by kernel_rfl) (by kernel_rfl) (c:=zff) (lv:=zg0) ?_
  intro xs mem p out h hp
  unfold zff at h
  split at h
  · cases h
    exact zwW _ _ rfl
  · cases h
end
end Go.Proofs.YtnolgfdjcipmmaaDoor.M
namespace Go.Proofs.YtnolgfdjcipmmaaDoor.M
open Go
noncomputable section
set_option maxRecDepth 100000
set_option maxHeartbeats 0
noncomputable def zke:Tbl:=[(25,[],za5)]
noncomputable def zpR:CfgW:=mkC Tryd.prog theG zke 10 0 false
def ziv:Nat→List Nat:=fun i=>[]
noncomputable abbrev zkw:Code:=Tryd.f11.body.getD .skip
noncomputable abbrev zpJ:List ResultVar:=Tryd.f11.results.toList
def ziI:List Nat:=[]
def zey (r:Int):CallOut:=⟨.pv (.sc .i r),[],true,[]⟩
theorem zz1  (Q:CallOut→Prop):zab zpR ziv zpJ ziI zkw [.pv .nilp] [] Q =
    (Q (zey (0:Int))):=by kernel_rfl
theorem zzU  {Q:CallOut→Prop} (h:Q (zey (tree_Len_n ))):zab zpR ziv zpJ ziI zkw [.pv .nilp] [] Q :=
  Eq.mpr (zz1  Q) (have h:=Eq.mp (congrArg (fun r=>Q (zey r)) (tree_Len_n.eq_1 )) h; h)
def zgL:Ans
  | [.pv .nilp],[]=>some (none,zey (tree_Len_n ))
  | _,_=>none
theorem zsM:TblOK Tryd.prog theG zke:=.cons ⟨by kernel_rfl,zbm⟩ (.nil)
theorem zwm:FnOK Tryd.prog theG 11 (unW zgL):=by
  refine FnOK.ofC (T:=zke) (nt:=10) (np:=0) (mv:=[]) (nf:=false) (hs:=ziI) (fn:=Tryd.f11) (body:=zkw) zsM (by kernel_rfl) (by kernel_rfl) (by kernel_rfl) (by kernel_rfl) (c:=zgL) (lv:=ziv) ?_
  intro xs mem p out h hp
  unfold zgL at h
  split at h
  · cases h
    exact zzU  rfl
  · cases h
end
end Go.Proofs.YtnolgfdjcipmmaaDoor.M
namespace Go.Proofs.YtnolgfdjcipmmaaDoor.M
open Go
noncomputable section
set_option maxRecDepth 100000
set_option maxHeartbeats 0
noncomputable def zj0:Tbl:=[(25,[],za4)]
noncomputable def zo6:CfgW:=mkC Tryd.prog theG zj0 10 0 false
def ziC:Nat→List Nat:=fun i=>[]
noncomputable abbrev zj9:Code:=Tryd.f11.body.getD .skip
noncomputable abbrev zpt:List ResultVar:=Tryd.f11.results.toList
def zjj:List Nat:=[]
def zeC (r:Int):CallOut:=⟨.pv (.sc .i r),[],true,[]⟩
theorem zyb  (Q:CallOut→Prop):zab zo6 ziC zpt zjj zj9 [.rp (.st [.sp 105 [],.nilm,.sc .i 0])] [] Q =
    (Q (zeC (0:Int))):=by kernel_rfl
theorem zyj  {Q:CallOut→Prop} (h:Q (zeC (tree_Len_z ))):zab zo6 ziC zpt zjj zj9 [.rp (.st [.sp 105 [],.nilm,.sc .i 0])] [] Q :=
  Eq.mpr (zyb  Q) (have h:=Eq.mp (congrArg (fun r=>Q (zeC r)) (tree_Len_z.eq_1 )) h; h)
def zgm:Ans
  | [.rp (.st [.sp 105 [],.nilm,.sc .i 0])],[]=>some (none,zeC (tree_Len_z ))
  | _,_=>none
theorem ztA:TblOK Tryd.prog theG zj0:=.cons ⟨by kernel_rfl,zbl⟩ (.nil)
theorem zxl:FnOK Tryd.prog theG 11 (unW zgm):=by
  refine FnOK.ofC (T:=zj0) (nt:=10) (np:=0) (mv:=[]) (nf:=false) (hs:=zjj) (fn:=Tryd.f11) (body:=zj9) ztA (by kernel_rfl) (by kernel_rfl) (by kernel_rfl) (by kernel_rfl) (c:=zgm) (lv:=ziC) ?_
  intro xs mem p out h hp
  unfold zgm at h
  split at h
  · cases h
    exact zyj  rfl
  · cases h
end
end Go.Proofs.YtnolgfdjcipmmaaDoor.M
namespace Go.Proofs.YtnolgfdjcipmmaaDoor.M
open Go
noncomputable section
set_option maxRecDepth 100000
set_option maxHeartbeats 0
noncomputable def zim:Tbl:=[(25,[],za5)]
noncomputable def zmT:CfgW:=mkC Tryd.prog theG zim 9 0 false
def zhn:Nat→List Nat:=fun i=>[]
noncomputable abbrev zji:Code:=Tryd.f7.body.getD .skip
noncomputable abbrev znQ:List ResultVar:=Tryd.f7.results.toList
def zgY:List Nat:=[]
def zdB (r:Int):CallOut:=⟨.pv (.sc .i r),[],true,[]⟩
theorem zwx  (Q:CallOut→Prop):zab zmT zhn znQ zgY zji [.pv .nilp] [] Q =
    (Q (zdB (0:Int))):=by kernel_rfl
theorem zxr  {Q:CallOut→Prop} (h:Q (zdB (tree_Best_n ))):zab zmT zhn znQ zgY zji [.pv .nilp] [] Q :=
  Eq.mpr (zwx  Q) (have h:=Eq.mp (congrArg (fun r=>Q (zdB r)) (tree_Best_n.eq_1 )) h; h)
def zfc:Ans
  | [.pv .nilp],[]=>some (none,zdB (tree_Best_n ))
  | _,_=>none
theorem zqI:TblOK Tryd.prog theG zim:=.cons ⟨by kernel_rfl,zbm⟩ (.nil)
theorem ztE:FnOK Tryd.prog theG 7 (unW zfc):=by
  refine FnOK.ofC (T:=zim) (nt:=9) (np:=0) (mv:=[]) (nf:=false) (hs:=zgY) (fn:=Tryd.f7) (body:=zji) zqI (by kernel_rfl) (by kernel_rfl) (by kernel_rfl) (by kernel_rfl) (c:=zfc) (lv:=zhn) ?_
  intro xs mem p out h hp
  unfold zfc at h
  split at h
  · cases h
    exact zxr  rfl
  · cases h
end
end Go.Proofs.YtnolgfdjcipmmaaDoor.M
namespace Go.Proofs.YtnolgfdjcipmmaaDoor.M
open Go
noncomputable section
set_option maxRecDepth 100000
set_option maxHeartbeats 0
noncomputable def zi8:Tbl:=[(25,[],za4)]
noncomputable def zm0:CfgW:=mkC Tryd.prog theG zi8 9 0 false
def zg4:Nat→List Nat:=fun i=>[]
noncomputable abbrev ziR:Code:=Tryd.f7.body.getD .skip
noncomputable abbrev zm1:List ResultVar:=Tryd.f7.results.toList
def zg1:List Nat:=[]
def zdu (r:Int):CallOut:=⟨.pv (.sc .i r),[],true,[]⟩
theorem zvm  (Q:CallOut→Prop):zab zm0 zg4 zm1 zg1 ziR [.rp (.st [.sp 105 [],.nilm,.sc .i 0])] [] Q =
    (Q (zdu (0:Int))):=by kernel_rfl
theorem zw8  {Q:CallOut→Prop} (h:Q (zdu (tree_Best_z ))):zab zm0 zg4 zm1 zg1 ziR [.rp (.st [.sp 105 [],.nilm,.sc .i 0])] [] Q :=
  Eq.mpr (zvm  Q) (have h:=Eq.mp (congrArg (fun r=>Q (zdu r)) (tree_Best_z.eq_1 )) h; h)
def zfk:Ans
  | [.rp (.st [.sp 105 [],.nilm,.sc .i 0])],[]=>some (none,zdu (tree_Best_z ))
  | _,_=>none
theorem zrM:TblOK Tryd.prog theG zi8:=.cons ⟨by kernel_rfl,zbl⟩ (.nil)
theorem zs0:FnOK Tryd.prog theG 7 (unW zfk):=by
  refine FnOK.ofC (T:=zi8) (nt:=9) (np:=0) (mv:=[]) (nf:=false) (hs:=zg1) (fn:=Tryd.f7) (body:=ziR) zrM (by kernel_rfl) (by kernel_rfl) (by kernel_rfl) (by kernel_rfl) (c:=zfk) (lv:=zg4) ?_
  intro xs mem p out h hp
  unfold zfk at h
  split at h
  · cases h
    exact zw8  rfl
  · cases h
end
end Go.Proofs.YtnolgfdjcipmmaaDoor.M
namespace Go.Proofs.YtnolgfdjcipmmaaDoor.M
open Go
noncomputable section
set_option maxRecDepth 100000
set_option maxHeartbeats 0
noncomputable def zhX:Tbl:=[(25,[],za5)]
noncomputable def znx:CfgW:=mkC Tryd.prog theG zhX 21 0 false
def zhl:Nat→List Nat:=fun i=>[]
noncomputable abbrev ziN:Code:=Tryd.f18.body.getD .skip
noncomputable abbrev zmO:List ResultVar:=Tryd.f18.results.toList
def zhj:List Nat:=[]
def zdK (r:Unit):CallOut:=⟨.pv .nilp,[],true,[]⟩
theorem zwR  (Q:CallOut→Prop):zab znx zhl zmO zhj ziN [.pv .nilp] [] Q =
    (Q (zdK ())):=by kernel_rfl
theorem zwU  {Q:CallOut→Prop} (h:Q (zdK (tree_Copy_n ))):zab znx zhl zmO zhj ziN [.pv .nilp] [] Q :=
  Eq.mpr (zwR  Q) (have h:=Eq.mp (congrArg (fun r=>Q (zdK r)) (tree_Copy_n.eq_1 )) h; h)
def zfn:Ans
  | [.pv .nilp],[]=>some (none,zdK (tree_Copy_n ))
  | _,_=>none
theorem zsl:TblOK Tryd.prog theG zhX:=.cons ⟨by kernel_rfl,zbm⟩ (.nil)
theorem ztK:FnOK Tryd.prog theG 18 (unW zfn):=by
  refine FnOK.ofC (T:=zhX) (nt:=21) (np:=0) (mv:=[]) (nf:=false) (hs:=zhj) (fn:=Tryd.f18) (body:=ziN) zsl (by kernel_rfl) (by kernel_rfl) (by kernel_rfl) (by kernel_rfl) (c:=zfn) (lv:=zhl) ?_
  intro xs mem p out h hp
  unfold zfn at h
  split at h
  · cases h
    exact zwU  rfl
  · cases h
end
end Go.Proofs.YtnolgfdjcipmmaaDoor.M
namespace Go.Proofs.YtnolgfdjcipmmaaDoor.M
open Go
noncomputable section
set_option maxRecDepth 100000
set_option maxHeartbeats 0
noncomputable def ziW:Tbl:=[(25,[],za4)]
noncomputable def zmX:CfgW:=mkC Tryd.prog theG ziW 21 0 false
def zhr:Nat→List Nat:=fun i=>[]
noncomputable abbrev ziz:Code:=Tryd.f18.body.getD .skip
noncomputable abbrev znn:List ResultVar:=Tryd.f18.results.toList
def zgP:List Nat:=[]
def zdM (r:Unit):CallOut:=⟨.pv .nilp,[],true,[]⟩
theorem zwu  (Q:CallOut→Prop):zab zmX zhr znn zgP ziz [.rp (.st [.sp 105 [],.nilm,.sc .i 0])] [] Q =
    (Q (zdM ())):=by kernel_rfl
theorem zxi  {Q:CallOut→Prop} (h:Q (zdM (tree_Copy_z ))):zab zmX zhr znn zgP ziz [.rp (.st [.sp 105 [],.nilm,.sc .i 0])] [] Q :=
  Eq.mpr (zwu  Q) (have h:=Eq.mp (congrArg (fun r=>Q (zdM r)) (tree_Copy_z.eq_1 )) h; h)
def zfi:Ans
  | [.rp (.st [.sp 105 [],.nilm,.sc .i 0])],[]=>some (none,zdM (tree_Copy_z ))
  | _,_=>none
theorem zrL:TblOK Tryd.prog theG ziW:=.cons ⟨by kernel_rfl,zbl⟩ (.nil)
theorem zts:FnOK Tryd.prog theG 18 (unW zfi):=by
  refine FnOK.ofC (T:=ziW) (nt:=21) (np:=0) (mv:=[]) (nf:=false) (hs:=zgP) (fn:=Tryd.f18) (body:=ziz) zrL (by kernel_rfl) (by kernel_rfl) (by kernel_rfl) (by kernel_rfl) (c:=zfi) (lv:=zhr) ?_
  intro xs mem p out h hp
  unfold zfi at h
  split at h
  · cases h
    exact zxi  rfl
  · cases h
end
end Go.Proofs.YtnolgfdjcipmmaaDoor.M
namespace Go.Proofs.YtnolgfdjcipmmaaDoor.M
open Go
noncomputable section
set_option maxRecDepth 100000
set_option maxHeartbeats 0
noncomputable def zoc:Tbl:=[(19,[],zgv),(20,[],zgb),(21,[],zcg)]
noncomputable def zt2:CfgW:=mkC Tryd.prog theG zoc 24 0 false
def zlY:Nat→List Nat:=fun i=>[]
noncomputable abbrev zoN:Code:=Tryd.f5.body.getD .skip
noncomputable abbrev zuy:List ResultVar:=Tryd.f5.results.toList
def zme:List Nat:=[]
def zeW (r:Int × List PV × (List (PV × PV))):CallOut:=⟨.p 60000 [],[(60000,.box (.st [.o 60001,.o 60002,.pv (.sc .i r.1)])),(60001,.row (.p 105 r.2.1) false),(60002,.map r.2.2)],true,[]⟩
theorem zDI  (Q:CallOut→Prop):zab zt2 zlY zuy zme zoN [] [] Q =
  (let s0:= [(PV.st (List.set (List.set (List.set (List.set (List.reverse  [(PV.arr EK.u64 4 (Vector.replicate 4 (0:UInt64))),(PV.sc EK.u32 (0:UInt32)),(PV.sc EK.i (0:Int)),(PV.st (List.reverse  [(PV.sc EK.u32 (0:UInt32)),(PV.sc EK.u32 (0:UInt32)),(PV.sc EK.u32 (0:UInt32)),(PV.arr EK.u8 32 (Vector.replicate 32 (0:UInt8))),(PV.arr EK.u8 32 (Vector.replicate 32 (0:UInt8)))])),(PV.arr EK.u8 32 (Vector.replicate 32 (0:UInt8)))]) (0:Nat) (PV.arr EK.u8 32 (idV (Vector.replicate 32 (0:UInt8)) (Vector.replicate 32 (0:UInt8)) (0:UInt32) (545259519:UInt32) (0:UInt32)))) (1:Nat) (PV.st  [(PV.arr EK.u8 32 (Vector.replicate 32 (0:UInt8))),(PV.arr EK.u8 32 (Vector.replicate 32 (0:UInt8))),(PV.sc EK.u32 (0:UInt32)),(PV.sc EK.u32 (545259519:UInt32)),(PV.sc EK.u32 (0:UInt32))])) (2:Nat) (PV.sc EK.i (-(1:Int)))) (4:Nat) (PV.arr EK.u64 4 (zcn (545259519:UInt32)))))];let s1:=(PV.arr EK.u8 32 (idV (Vector.replicate 32 (0:UInt8)) (Vector.replicate 32 (0:UInt8)) (0:UInt32) (545259519:UInt32) (0:UInt32)));(((zhm (zch  s1 ) ([]:List (PV × PV)))=true)∧(((((PV.flats (List.map (fun(z1:PV × PV)=>(Prod.fst z1)) (mset ([]:List (PV × PV))  s1  (PV.sc EK.i (0:Int))))) && (PV.flats (List.map (fun(z1:PV × PV)=>(Prod.snd z1)) (mset ([]:List (PV × PV))  s1  (PV.sc EK.i (0:Int))))))=true)∧((PV.flats  s0 )=true))∧(Q (zeW ((0:Int), s0 ,(mset ([]:List (PV × PV))  s1  (PV.sc EK.i (0:Int))))))))):=by kernel_rfl
theorem zCY  {Q:CallOut→Prop} (h:Q (zeW (tree_New ))):zab zt2 zlY zuy zme zoN [] [] Q :=
  Eq.mpr (zDI  Q) (have h:=Eq.mp (congrArg (fun r=>Q (zeW r)) (tree_New.eq_1 )) h; ⟨by decide +kernel,⟨by decide +kernel,h⟩⟩)
def zkW:Ans
  | [],[]=>some (none,zeW ((tvNew.best,tvNew.blocks,tvNew.ids)))
  | _,_=>none
theorem zz2:TblOK Tryd.prog theG zoc:=.cons ⟨by kernel_rfl,zxm⟩ (.cons ⟨by kernel_rfl,zkN⟩ (.cons ⟨by kernel_rfl,zex⟩ (.nil)))
theorem zz5:FnOK Tryd.prog theG 5 (unW zkW):=by
  refine FnOK.ofC (T:=zoc) (nt:=24) (np:=0) (mv:=[]) (nf:=false) (hs:=zme) (fn:=Tryd.f5) (body:=zoN) zz2 (by kernel_rfl) (by kernel_rfl) (by kernel_rfl) (by kernel_rfl) (c:=zkW) (lv:=zlY) ?_
  intro xs mem p out h hp
  unfold zkW at h
  split at h
  · cases h
    exact zCY  (congrArg zeW (zxt))
  · cases h
end
end Go.Proofs.YtnolgfdjcipmmaaDoor.M
namespace Go.Proofs.YtnolgfdjcipmmaaDoor.M
open Go
noncomputable section
set_option maxRecDepth 100000
set_option maxHeartbeats 0
noncomputable def zlO:Tbl:=[]
noncomputable def zqL:CfgW:=mkC Tryd.prog theG zlO 12 1 false
def zkz:Nat→List Nat:=fun i=>[]
noncomputable abbrev zmg:Code:=Tryd.f25.body.getD .skip
noncomputable abbrev zsa:List ResultVar:=Tryd.f25.results.toList
def zkJ:List Nat:=[0]
def zfv (r:Bool × Int × List PV × (List (PV × PV))):CallOut:=⟨.pv (.sc .b r.1),[(60000,.box (.st [.o 60001,.o 60002,.pv (.sc .i r.2.1)])),(60001,.row (.p 105 r.2.2.1) false),(60002,.map r.2.2.2)],true,[(0,.p 60000 [])]⟩
theorem zAR (blocks:List PV) (ids:List (PV × PV)) (best:Int) (Q:CallOut→Prop):zab zqL zkz zsa zkJ zmg [.p 60000 []] [(60000,.box (.st [.o 60001,.o 60002,.pv (.sc .i best)])),(60001,.row (.p 105 blocks) false),(60002,.map ids)] Q =
    (((((PV.flats (List.map (fun(z4:PV × PV)=>(Prod.fst z4)) ids)) && (PV.flats (List.map (fun(z4:PV × PV)=>(Prod.snd z4)) ids)))=true)∧((PV.flats blocks)=true))∧(Q (zfv (false,best,blocks,ids)))):=by kernel_rfl
theorem zBx (blocks:List PV) (ids:List (PV × PV)) (best:Int) {r} {Q:CallOut→Prop} (h:tree_none blocks ids best=some r) (hQ:Q (zfv r)):zab zqL zkz zsa zkJ zmg [.p 60000 []] [(60000,.box (.st [.o 60001,.o 60002,.pv (.sc .i best)])),(60001,.row (.p 105 blocks) false),(60002,.map ids)] Q :=
  Eq.mpr (zAR blocks ids best Q) (have h:=(tree_none.eq_1 blocks ids best).symm.trans h; zad h fun hc0 h=>zam (Q:=Q) (e:=zfv) h hQ)
def zdk:Ans
  | [.p 60000 []],[(60000,.box (.st [.o 60001,.o 60002,.pv (.sc .i best)])),(60001,.row (.p 105 blocks) false),(60002,.map ids)]=>some (some (tvC (TV.mk blocks ids best)),zfv ((false,best,blocks,ids)))
  | _,_=>none
theorem zwk:TblOK Tryd.prog theG zlO:=.nil
theorem zgI:FnOK Tryd.prog theG 25 (unW zdk):=by
  refine FnOK.ofC (T:=zlO) (nt:=12) (np:=1) (mv:=[]) (nf:=false) (hs:=zkJ) (fn:=Tryd.f25) (body:=zmg) zwk (by kernel_rfl) (by kernel_rfl) (by kernel_rfl) (by kernel_rfl) (c:=zdk) (lv:=zkz) ?_
  intro xs mem p out h hp
  unfold zdk at h
  split at h
  · cases h
    exact zBx _ _ _ (ztD _ _ _ hp) rfl
  · cases h
end
end Go.Proofs.YtnolgfdjcipmmaaDoor.M
namespace Go.Proofs.YtnolgfdjcipmmaaDoor.M
open Go
noncomputable section
set_option maxRecDepth 100000
set_option maxHeartbeats 0
noncomputable def zog:Tbl:=[(25,[true],zdk),(20,[],zgb),(21,[],zcg),(26,[],zfI),(28,[],zfh),(27,[],zdG),(29,[],zeb)]
noncomputable def zuY:CfgW:=mkC Tryd.prog theG zog 130 1 false noIt [1010306000000]
def zmr:Nat→List Nat:=fun i=>[]
noncomputable abbrev zoJ:Code:=Tryd.f8.body.getD .skip
noncomputable abbrev zuD:List ResultVar:=Tryd.f8.results.toList
def zmJ:List Nat:=[0]
def zaI (r:Int × Int × Int × List PV × (List (PV × PV))):CallOut:=⟨.tup [.pv (.sc .i r.1),.pv (.sc .i r.2.1)],[(60000,.box (.st [.o 60001,.o 60002,.pv (.sc .i r.2.2.1)])),(60001,.row (.p 105 r.2.2.2.1) false),(60002,.map r.2.2.2.2)],true,[(0,.p 60000 [])]⟩
theorem zEb (blocks:List PV) (ids:List (PV × PV)) (best:Int) (h_1_Prev:Vector UInt8 32) (h_1_Root:Vector UInt8 32) (h_1_Time:UInt32) (h_1_Bits:UInt32) (h_1_Nonce:UInt32) (Q:CallOut→Prop):zab zuY zmr zuD zmJ zoJ [.p 60000 [],.pv (.st [.arr .u8 32 h_1_Prev,.arr .u8 32 h_1_Root,.sc .u32 h_1_Time,.sc .u32 h_1_Bits,.sc .u32 h_1_Nonce])] [(60000,.box (.st [.o 60001,.o 60002,.pv (.sc .i best)])),(60001,.row (.p 105 blocks) false),(60002,.map ids)] Q =
  (let s0:=(List.set (List.set (List.set (List.set (List.reverse  [(PV.arr EK.u64 4 (Vector.replicate 4 (0:UInt64))),(PV.sc EK.u32 (0:UInt32)),(PV.sc EK.i (0:Int)),(PV.st (List.reverse  [(PV.sc EK.u32 (0:UInt32)),(PV.sc EK.u32 (0:UInt32)),(PV.sc EK.u32 (0:UInt32)),(PV.arr EK.u8 32 (Vector.replicate 32 (0:UInt8))),(PV.arr EK.u8 32 (Vector.replicate 32 (0:UInt8)))])),(PV.arr EK.u8 32 (Vector.replicate 32 (0:UInt8)))]) (0:Nat) (PV.arr EK.u8 32 (idV h_1_Prev h_1_Root h_1_Time h_1_Bits h_1_Nonce))) (1:Nat) (PV.st  [(PV.arr EK.u8 32 h_1_Prev),(PV.arr EK.u8 32 h_1_Root),(PV.sc EK.u32 h_1_Time),(PV.sc EK.u32 h_1_Bits),(PV.sc EK.u32 h_1_Nonce)])) (2:Nat) (TY.eta (TY.sc EK.i) (Option.getD (mget ids (PV.arr EK.u8 32 h_1_Prev)) (PV.sc EK.i (0:Int))))) (3:Nat) (PV.sc EK.u32 ((PV.scv EK.u32 (RC.get (RC.p 105 blocks) ( [(PE.i (Int.toNat (PV.scv EK.i (Option.getD (mget ids (PV.arr EK.u8 32 h_1_Prev)) (PV.sc EK.i (0:Int))))))]++ [(PE.f 3)])))+(1:UInt32))));let s1:=(blocks++ [(PV.st (List.set  s0  (4:Nat) (PV.arr EK.u64 4 (addV (PV.vecv EK.u64 4 (RC.get (RC.p 105 blocks) ( [(PE.i (Int.toNat (PV.scv EK.i (Option.getD (mget ids (PV.arr EK.u8 32 h_1_Prev)) (PV.sc EK.i (0:Int))))))]++ [(PE.f 4)]))) (zcn h_1_Bits)))))]);let s2:=(mset ids (PV.arr EK.u8 32 (idV h_1_Prev h_1_Root h_1_Time h_1_Bits h_1_Nonce)) (PV.sc EK.i (((List.length blocks):Nat):Int)));let s3:=(blocks++ [(PV.st (List.set  s0  (4:Nat) (PV.arr EK.u64 4 (subV (Vector.replicate 4 (0:UInt64)) (uW (1:Nat))))))]);let s4:=(PV.scv EK.i (Option.getD (mget ids (PV.arr EK.u8 32 h_1_Prev)) (PV.sc EK.i (0:Int))));let s5:=(TY.st  [(TY.arr EK.u8 32),(TY.st  [(TY.arr EK.u8 32),(TY.arr EK.u8 32),(TY.sc EK.u32),(TY.sc EK.u32),(TY.sc EK.u32)]),(TY.sc EK.i),(TY.sc EK.u32),(TY.arr EK.u64 4)]);let s6:=((((PV.flats (List.map (fun(z9:PV × PV)=>(Prod.fst z9)) ids)) && (PV.flats (List.map (fun(z9:PV × PV)=>(Prod.snd z9)) ids)))=true)∧((PV.flats blocks)=true));let s7:=(((PV.flats (List.map (fun(z9:PV × PV)=>(Prod.fst z9))  s2 )) && (PV.flats (List.map (fun(z9:PV × PV)=>(Prod.snd z9))  s2 )))=true);let s8:=(PV.arr EK.u8 32 (idV h_1_Prev h_1_Root h_1_Time h_1_Bits h_1_Nonce));let s9:=(RC.get (RC.p 105 blocks) ( [(PE.i (Int.toNat  s4 ))]++ [(PE.f 4)]));let s10:=( [(PE.i (Int.toNat best))]++ [(PE.f 4)]);let s11:=((TY.chk  s5  (RC.get (RC.p 105 blocks)  [(PE.i (Int.toNat  s4 ))]))=true);let s12:=((TY.chk (TY.sc EK.u32) (RC.get (RC.p 105 blocks) ( [(PE.i (Int.toNat  s4 ))]++ [(PE.f 3)])))=true);let s13:=((List.all ids (fun(z9:PV × PV)=>((PV.isAgg (Prod.snd z9)) == (PV.isAgg (PV.sc EK.i (0:Int))))))=true);((tvC (TV.mk blocks ids best))∧((((zhm (zch  s8 ) ids)=true)∧( s13 ∧((TY.chk (TY.sc EK.i) (Option.getD (mget ids  s8 ) (PV.sc EK.i (0:Int))))=true)))∧(zal (Option.isSome (mget ids  s8 )) ( s6 ∧(Q (zaI ((0:Int),(7:Int),best,blocks,ids)))) ((((zhm (zch (PV.arr EK.u8 32 h_1_Prev)) ids)=true)∧( s13 ∧((TY.chk (TY.sc EK.i) (Option.getD (mget ids (PV.arr EK.u8 32 h_1_Prev)) (PV.sc EK.i (0:Int))))=true)))∧(zal (!(Option.isSome (mget ids (PV.arr EK.u8 32 h_1_Prev)))) ( s6 ∧(Q (zaI ((0:Int),(6:Int),best,blocks,ids)))) (zal (!(decide ((ofE h_1_Bits)=(0:Int)))) ( s6 ∧(Q (zaI ((0:Int),(5:Int),best,blocks,ids)))) (zal (decide ((200:Int)≤(((List.length blocks):Nat):Int))) ( s6 ∧(Q (zaI ((0:Int),(3:Int),best,blocks,ids)))) ((((0:Int)≤ s4 )∧( s4  < (((List.length blocks):Nat):Int)))∧( s11 ∧(((TY.chk (TY.arr EK.u64 4)  s9 )=true)∧(zal (addB (PV.vecv EK.u64 4  s9 ) (zcn h_1_Bits)) ((((0:Int)≤ s4 )∧( s4  < (((List.length blocks):Nat):Int)))∧( s11 ∧( s12 ∧(((((List.length  s3 )*(160:Nat))≤(70368744177664:Nat))∧((List.length  s3 )≤(70368744177664:Nat)))∧(((zhm (zch  s8 ) ids)=true)∧((((0:Int)≤best)∧(best < (((List.length  s3 ):Nat):Int)))∧(((TY.chk  s5  (RC.get (RC.p 105  s3 )  [(PE.i (Int.toNat best))]))=true)∧(((TY.chk (TY.arr EK.u64 4) (RC.get (RC.p 105  s3 )  s10 ))=true)∧(zal (subB (PV.vecv EK.u64 4 (RC.get (RC.p 105  s3 )  s10 )) (subV (Vector.replicate 4 (0:UInt64)) (uW (1:Nat)))) (( s7 ∧((PV.flats  s3 )=true))∧(Q (zaI ((((List.length blocks):Nat):Int),(0:Int),(((List.length blocks):Nat):Int), s3 , s2 )))) (( s7 ∧((PV.flats  s3 )=true))∧(Q (zaI ((((List.length blocks):Nat):Int),(0:Int),best, s3 , s2 ))))))))))))) ((((0:Int)≤ s4 )∧( s4  < (((List.length blocks):Nat):Int)))∧( s11 ∧( s12 ∧(((((List.length  s1 )*(160:Nat))≤(70368744177664:Nat))∧((List.length  s1 )≤(70368744177664:Nat)))∧(((zhm (zch  s8 ) ids)=true)∧((((0:Int)≤best)∧(best < (((List.length  s1 ):Nat):Int)))∧(((TY.chk  s5  (RC.get (RC.p 105  s1 )  [(PE.i (Int.toNat best))]))=true)∧(((TY.chk (TY.arr EK.u64 4) (RC.get (RC.p 105  s1 )  s10 ))=true)∧(zal (subB (PV.vecv EK.u64 4 (RC.get (RC.p 105  s1 )  s10 )) (addV (PV.vecv EK.u64 4  s9 ) (zcn h_1_Bits))) (( s7 ∧((PV.flats  s1 )=true))∧(Q (zaI ((((List.length blocks):Nat):Int),(0:Int),(((List.length blocks):Nat):Int), s1 , s2 )))) (( s7 ∧((PV.flats  s1 )=true))∧(Q (zaI ((((List.length blocks):Nat):Int),(0:Int),best, s1 , s2 ))))))))))))))))))))))))):=by kernel_rfl
theorem zDm (blocks:List PV) (ids:List (PV × PV)) (best:Int) (h_1_Prev:Vector UInt8 32) (h_1_Root:Vector UInt8 32) (h_1_Time:UInt32) (h_1_Bits:UInt32) (h_1_Nonce:UInt32) {r} {Q:CallOut→Prop} (h:tree_Add blocks ids best h_1_Prev h_1_Root h_1_Time h_1_Bits h_1_Nonce=some r) (hQ:Q (zaI r)):zab zuY zmr zuD zmJ zoJ [.p 60000 [],.pv (.st [.arr .u8 32 h_1_Prev,.arr .u8 32 h_1_Root,.sc .u32 h_1_Time,.sc .u32 h_1_Bits,.sc .u32 h_1_Nonce])] [(60000,.box (.st [.o 60001,.o 60002,.pv (.sc .i best)])),(60001,.row (.p 105 blocks) false),(60002,.map ids)] Q :=
  Eq.mpr (zEb blocks ids best h_1_Prev h_1_Root h_1_Time h_1_Bits h_1_Nonce Q) (have h:=(tree_Add.eq_1 blocks ids best h_1_Prev h_1_Root h_1_Time h_1_Bits h_1_Nonce).symm.trans h; zad h fun hc0 h=>zad h fun hc1 h=>zae h (fun h=>zad h fun hc2 h=>zam (Q:=Q) (e:=zaI) h hQ) (fun h=>zad h fun hc2 h=>zae h (fun h=>zad h fun hc3 h=>zam (Q:=Q) (e:=zaI) h hQ) (fun h=>zae h (fun h=>zad h fun hc3 h=>zam (Q:=Q) (e:=zaI) h hQ) (fun h=>zae h (fun h=>zad h fun hc3 h=>zam (Q:=Q) (e:=zaI) h hQ) (fun h=>zad h fun hc3 h=>zad h fun hc4 h=>zad h fun hc5 h=>zae h (fun h=>⟨hc3,⟨hc4,zad h fun hc6 h=>zad h fun hc7 h=>zad h fun hc8 h=>zad h fun hc9 h=>zad h fun hc10 h=>zad h fun hc11 h=>zae h (fun h=>zad h fun hc12 h=>zam (Q:=Q) (e:=zaI) h hQ) (fun h=>zad h fun hc12 h=>zam (Q:=Q) (e:=zaI) h hQ)⟩⟩) (fun h=>⟨hc3,⟨hc4,zad h fun hc6 h=>zad h fun hc7 h=>zad h fun hc8 h=>zad h fun hc9 h=>zad h fun hc10 h=>zad h fun hc11 h=>zae h (fun h=>zad h fun hc12 h=>zam (Q:=Q) (e:=zaI) h hQ) (fun h=>zad h fun hc12 h=>zam (Q:=Q) (e:=zaI) h hQ)⟩⟩))))))
def zkM:Ans
  | [.p 60000 [],.pv (.st [.arr .u8 32 h_1_Prev,.arr .u8 32 h_1_Root,.sc .u32 h_1_Time,.sc .u32 h_1_Bits,.sc .u32 h_1_Nonce])],[(60000,.box (.st [.o 60001,.o 60002,.pv (.sc .i best)])),(60001,.row (.p 105 blocks) false),(60002,.map ids)]=>some (some (tvC (TV.mk blocks ids best)),zaI (((zaH (TV.mk blocks ids best) h_1_Prev h_1_Root h_1_Time h_1_Bits h_1_Nonce).1,(zaH (TV.mk blocks ids best) h_1_Prev h_1_Root h_1_Time h_1_Bits h_1_Nonce).2.1,(zaH (TV.mk blocks ids best) h_1_Prev h_1_Root h_1_Time h_1_Bits h_1_Nonce).2.2.best,(zaH (TV.mk blocks ids best) h_1_Prev h_1_Root h_1_Time h_1_Bits h_1_Nonce).2.2.blocks,(zaH (TV.mk blocks ids best) h_1_Prev h_1_Root h_1_Time h_1_Bits h_1_Nonce).2.2.ids)))
  | _,_=>none
theorem zzQ:TblOK Tryd.prog theG zog:=.cons ⟨by kernel_rfl,zgI⟩ (.cons ⟨by kernel_rfl,zkN⟩ (.cons ⟨by kernel_rfl,zex⟩ (.cons ⟨by kernel_rfl,zkQ⟩ (.cons ⟨by kernel_rfl,zhG⟩ (.cons ⟨by kernel_rfl,zfA⟩ (.cons ⟨by kernel_rfl,ziS⟩ (.nil)))))))
theorem zBN:FnOK Tryd.prog theG 8 (unW zkM):=by
  refine FnOK.ofC (T:=zog) (nt:=130) (np:=1) (mv:=[1010306000000]) (nf:=false) (hs:=zmJ) (fn:=Tryd.f8) (body:=zoJ) zzQ (by kernel_rfl) (by kernel_rfl) (by kernel_rfl) (by kernel_rfl) (c:=zkM) (lv:=zmr) ?_
  intro xs mem p out h hp
  unfold zkM at h
  split at h
  · cases h
    exact zDm _ _ _ _ _ _ _ _ (zv6 _ _ _ _ _ _ _ _ hp) rfl
  · cases h
end
end Go.Proofs.YtnolgfdjcipmmaaDoor.M
namespace Go.Proofs.YtnolgfdjcipmmaaDoor.M
open Go
noncomputable section
set_option maxRecDepth 100000
set_option maxHeartbeats 0
noncomputable def zop:Tbl:=[(25,[true],zdk),(34,[true,false],zbJ),(37,[],zcM)]
noncomputable def zui:CfgW:=mkC Tryd.prog theG zop 87 1 false
def zmh:Nat→List Nat:=fun i=>bif Nat.beq i 3000001 then [9,0,2,4,6,7,8]else []
noncomputable abbrev zoZ:Code:=Tryd.f15.body.getD .skip
noncomputable abbrev zun:List ResultVar:=Tryd.f15.results.toList
def zms:List Nat:=[0]
def zdl (r:UInt32 × UInt32 × UInt32 × Vector UInt8 32 × Int × Int × List PV × (List (PV × PV))):CallOut:=⟨.tup [.pv (.st [.sc .u32 r.1,.sc .u32 r.2.1,.sc .u32 r.2.2.1,.arr .u8 32 r.2.2.2.1]),.pv (.sc .i r.2.2.2.2.1)],[(60000,.box (.st [.o 60001,.o 60002,.pv (.sc .i r.2.2.2.2.2.1)])),(60001,.row (.p 105 r.2.2.2.2.2.2.1) false),(60002,.map r.2.2.2.2.2.2.2)],true,[(0,.p 60000 [])]⟩
theorem zDl (blocks:List PV) (ids:List (PV × PV)) (best:Int) (n:Int) (Q:CallOut→Prop):zab zui zmh zun zms zoZ [.p 60000 [],.pv (.sc .i n)] [(60000,.box (.st [.o 60001,.o 60002,.pv (.sc .i best)])),(60001,.row (.p 105 blocks) false),(60002,.map ids)] Q =
  (let s0:=(RC.get (RC.p 105 blocks)  [(PE.i (Int.toNat n))]);let s1:=((((PV.flats (List.map (fun(z5:PV × PV)=>(Prod.fst z5)) ids)) && (PV.flats (List.map (fun(z5:PV × PV)=>(Prod.snd z5)) ids)))=true)∧((PV.flats blocks)=true));((tvC (TV.mk blocks ids best))∧((tvC (TV.mk blocks ids best))∧(zal (!(zgk blocks n)) ( s1 ∧(Q (zdl ((0:UInt32),(0:UInt32),(0:UInt32),(Vector.replicate 32 (0:UInt8)),(2:Int),best,blocks,ids)))) ((((0:Int)≤n)∧(n < (((List.length blocks):Nat):Int)))∧(((TY.chk (TY.st  [(TY.arr EK.u8 32),(TY.st  [(TY.arr EK.u8 32),(TY.arr EK.u8 32),(TY.sc EK.u32),(TY.sc EK.u32),(TY.sc EK.u32)]),(TY.sc EK.i),(TY.sc EK.u32),(TY.arr EK.u64 4)])  s0 )=true)∧(((8:UInt32)≠(0:UInt32))∧(zal (decide ((((PV.scv EK.u32 (PV.fld 3  s0 ))+(1:UInt32)) % (8:UInt32))=(0:UInt32))) (False) ( s1 ∧(Q (zdl (((PV.scv EK.u32 (PV.fld 3  s0 ))+(1:UInt32)),(PV.scv EK.u32 (PV.fld 2 (PV.fld 1  s0 ))),(PV.scv EK.u32 (PV.fld 3 (PV.fld 1  s0 ))),(PV.vecv EK.u8 32 (PV.fld 0  s0 )),(0:Int),best,blocks,ids)))))))))))):=by kernel_rfl
theorem zC9 (blocks:List PV) (ids:List (PV × PV)) (best:Int) (n:Int) {r} {Q:CallOut→Prop} (h:tree_Ctx blocks ids best n=some r) (hQ:Q (zdl r)):zab zui zmh zun zms zoZ [.p 60000 [],.pv (.sc .i n)] [(60000,.box (.st [.o 60001,.o 60002,.pv (.sc .i best)])),(60001,.row (.p 105 blocks) false),(60002,.map ids)] Q :=
  Eq.mpr (zDl blocks ids best n Q) (have h:=(tree_Ctx.eq_1 blocks ids best n).symm.trans h; zad h fun hc0 h=>⟨hc0,zae h (fun h=>zad h fun hc1 h=>zam (Q:=Q) (e:=zdl) h hQ) (fun h=>zad h fun hc1 h=>zad h fun hc2 h=>⟨by decide +kernel,zae h (fun h=>zcN h) (fun h=>zad h fun hc3 h=>zam (Q:=Q) (e:=zdl) h hQ)⟩)⟩)
def zlc:Ans
  | [.p 60000 [],.pv (.sc .i n)],[(60000,.box (.st [.o 60001,.o 60002,.pv (.sc .i best)])),(60001,.row (.p 105 blocks) false),(60002,.map ids)]=>some (some (tvC (TV.mk blocks ids best)∧zFU blocks n),zdl ((bif zgk blocks n then(zdd blocks n).height+1 else 0,(zdd blocks n).time,(zdd blocks n).bits,(zdd blocks n).id,bif zgk blocks n then 0 else 2,best,blocks,ids)))
  | _,_=>none
theorem zzz:TblOK Tryd.prog theG zop:=.cons ⟨by kernel_rfl,zgI⟩ (.cons ⟨by kernel_rfl,zb9⟩ (.cons ⟨by kernel_rfl,zgV⟩ (.nil)))
theorem zBC:FnOK Tryd.prog theG 15 (unW zlc):=by
  refine FnOK.ofC (T:=zop) (nt:=87) (np:=1) (mv:=[]) (nf:=false) (hs:=zms) (fn:=Tryd.f15) (body:=zoZ) zzz (by kernel_rfl) (by kernel_rfl) (by kernel_rfl) (by kernel_rfl) (c:=zlc) (lv:=zmh) ?_
  intro xs mem p out h hp
  unfold zlc at h
  split at h
  · cases h
    exact zC9 _ _ _ _ (zvZ _ _ _ _ hp.1 hp.2) rfl
  · cases h
end
end Go.Proofs.YtnolgfdjcipmmaaDoor.M
namespace Go.Proofs.YtnolgfdjcipmmaaDoor.M
open Go
noncomputable section
set_option maxRecDepth 100000
set_option maxHeartbeats 0
noncomputable def zmy:Tbl:=[(25,[true],zdk)]
noncomputable def zrz:CfgW:=mkC Tryd.prog theG zmy 9 1 false
def zjG:Nat→List Nat:=fun i=>[]
noncomputable abbrev zlQ:Code:=Tryd.f7.body.getD .skip
noncomputable abbrev zsr:List ResultVar:=Tryd.f7.results.toList
def zjQ:List Nat:=[0]
def zfp (r:Int × Int × List PV × (List (PV × PV))):CallOut:=⟨.pv (.sc .i r.1),[(60000,.box (.st [.o 60001,.o 60002,.pv (.sc .i r.2.1)])),(60001,.row (.p 105 r.2.2.1) false),(60002,.map r.2.2.2)],true,[(0,.p 60000 [])]⟩
theorem zBH (blocks:List PV) (ids:List (PV × PV)) (best:Int) (Q:CallOut→Prop):zab zrz zjG zsr zjQ zlQ [.p 60000 []] [(60000,.box (.st [.o 60001,.o 60002,.pv (.sc .i best)])),(60001,.row (.p 105 blocks) false),(60002,.map ids)] Q =
    ((tvC (TV.mk blocks ids best))∧(((((PV.flats (List.map (fun(z4:PV × PV)=>(Prod.fst z4)) ids)) && (PV.flats (List.map (fun(z4:PV × PV)=>(Prod.snd z4)) ids)))=true)∧((PV.flats blocks)=true))∧(Q (zfp (best,best,blocks,ids))))):=by kernel_rfl
theorem zAA (blocks:List PV) (ids:List (PV × PV)) (best:Int) {r} {Q:CallOut→Prop} (h:tree_Best blocks ids best=some r) (hQ:Q (zfp r)):zab zrz zjG zsr zjQ zlQ [.p 60000 []] [(60000,.box (.st [.o 60001,.o 60002,.pv (.sc .i best)])),(60001,.row (.p 105 blocks) false),(60002,.map ids)] Q :=
  Eq.mpr (zBH blocks ids best Q) (have h:=(tree_Best.eq_1 blocks ids best).symm.trans h; zad h fun hc0 h=>zad h fun hc1 h=>zam (Q:=Q) (e:=zfp) h hQ)
def zhY:Ans
  | [.p 60000 []],[(60000,.box (.st [.o 60001,.o 60002,.pv (.sc .i best)])),(60001,.row (.p 105 blocks) false),(60002,.map ids)]=>some (some (tvC (TV.mk blocks ids best)),zfp ((best,best,blocks,ids)))
  | _,_=>none
theorem zwn:TblOK Tryd.prog theG zmy:=.cons ⟨by kernel_rfl,zgI⟩ (.nil)
theorem zzr:FnOK Tryd.prog theG 7 (unW zhY):=by
  refine FnOK.ofC (T:=zmy) (nt:=9) (np:=1) (mv:=[]) (nf:=false) (hs:=zjQ) (fn:=Tryd.f7) (body:=zlQ) zwn (by kernel_rfl) (by kernel_rfl) (by kernel_rfl) (by kernel_rfl) (c:=zhY) (lv:=zjG) ?_
  intro xs mem p out h hp
  unfold zhY at h
  split at h
  · cases h
    exact zAA _ _ _ (ztU _ _ _ hp) rfl
  · cases h
end
end Go.Proofs.YtnolgfdjcipmmaaDoor.M
namespace Go.Proofs.YtnolgfdjcipmmaaDoor.M
open Go
noncomputable section
set_option maxRecDepth 100000
set_option maxHeartbeats 0
noncomputable def zoB:Tbl:=[(25,[true],zdk)]
noncomputable def zuM:CfgW:=mkC Tryd.prog theG zoB 10 1 false
def zl7:Nat→List Nat:=fun i=>[]
noncomputable abbrev zov:Code:=Tryd.f11.body.getD .skip
noncomputable abbrev zu3:List ResultVar:=Tryd.f11.results.toList
def zmE:List Nat:=[0]
def zgD (r:Int × Int × List PV × (List (PV × PV))):CallOut:=⟨.pv (.sc .i r.1),[(60000,.box (.st [.o 60001,.o 60002,.pv (.sc .i r.2.1)])),(60001,.row (.p 105 r.2.2.1) false),(60002,.map r.2.2.2)],true,[(0,.p 60000 [])]⟩
theorem zEi (blocks:List PV) (ids:List (PV × PV)) (best:Int) (Q:CallOut→Prop):zab zuM zl7 zu3 zmE zov [.p 60000 []] [(60000,.box (.st [.o 60001,.o 60002,.pv (.sc .i best)])),(60001,.row (.p 105 blocks) false),(60002,.map ids)] Q =
    ((tvC (TV.mk blocks ids best))∧(((((PV.flats (List.map (fun(z4:PV × PV)=>(Prod.fst z4)) ids)) && (PV.flats (List.map (fun(z4:PV × PV)=>(Prod.snd z4)) ids)))=true)∧((PV.flats blocks)=true))∧(Q (zgD ((((List.length blocks):Nat):Int),best,blocks,ids))))):=by kernel_rfl
theorem zDx (blocks:List PV) (ids:List (PV × PV)) (best:Int) {r} {Q:CallOut→Prop} (h:tree_Len blocks ids best=some r) (hQ:Q (zgD r)):zab zuM zl7 zu3 zmE zov [.p 60000 []] [(60000,.box (.st [.o 60001,.o 60002,.pv (.sc .i best)])),(60001,.row (.p 105 blocks) false),(60002,.map ids)] Q :=
  Eq.mpr (zEi blocks ids best Q) (have h:=(tree_Len.eq_1 blocks ids best).symm.trans h; zad h fun hc0 h=>zad h fun hc1 h=>zam (Q:=Q) (e:=zgD) h hQ)
def zkR:Ans
  | [.p 60000 []],[(60000,.box (.st [.o 60001,.o 60002,.pv (.sc .i best)])),(60001,.row (.p 105 blocks) false),(60002,.map ids)]=>some (some (tvC (TV.mk blocks ids best)),zgD ((((blocks.length:Nat):Int),best,blocks,ids)))
  | _,_=>none
theorem zyx:TblOK Tryd.prog theG zoB:=.cons ⟨by kernel_rfl,zgI⟩ (.nil)
theorem zBk:FnOK Tryd.prog theG 11 (unW zkR):=by
  refine FnOK.ofC (T:=zoB) (nt:=10) (np:=1) (mv:=[]) (nf:=false) (hs:=zmE) (fn:=Tryd.f11) (body:=zov) zyx (by kernel_rfl) (by kernel_rfl) (by kernel_rfl) (by kernel_rfl) (c:=zkR) (lv:=zl7) ?_
  intro xs mem p out h hp
  unfold zkR at h
  split at h
  · cases h
    exact zDx _ _ _ (zxg _ _ _ hp) rfl
  · cases h
end
end Go.Proofs.YtnolgfdjcipmmaaDoor.M
