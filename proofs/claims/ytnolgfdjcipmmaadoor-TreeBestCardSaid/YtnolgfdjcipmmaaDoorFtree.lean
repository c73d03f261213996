/- Part of the proofs: what functions of the program do: plain functions, and the walks that show it. No condition. -/
import Derived.KernelRfl
import Derived.Test.YtnolgfdjcipmmaaDoorProg
import Derived.Test.YtnolgfdjcipmmaaDoorLe
import Derived.Test.YtnolgfdjcipmmaaDoorFhead
import Derived.Test.YtnolgfdjcipmmaaDoorFtarget
import Derived.Test.YtnolgfdjcipmmaaDoorSwords
import Derived.Test.YtnolgfdjcipmmaaDoorSshaS
import Derived.Test.YtnolgfdjcipmmaaDoorSendS
import Derived.Test.YtnolgfdjcipmmaaDoorStarS
import Derived.Test.YtnolgfdjcipmmaaDoorSbigS
import Derived.Test.YtnolgfdjcipmmaaDoorStreS
import Derived.Test.YtnolgfdjcipmmaaDoorFbig
import Derived.Test.YtnolgfdjcipmmaaDoorSshaK
set_option linter.unusedVariables false
set_option linter.unusedSimpArgs false
set_option autoImplicit false
namespace Go.Proofs.YtnolgfdjcipmmaaDoor.M
open Go
noncomputable section
def tree_New  : Int × List PV × (List (PV × PV)) :=
 ((0:Int), [(PV.st (List.set (List.set (List.set (List.set (List.reverse  [(PV.arr EK.u64 4 (Vector.replicate 4 (0:UInt64))),(PV.sc EK.u32 (0:UInt32)),(PV.sc EK.i (0:Int)),(PV.st (List.reverse  [(PV.sc EK.u32 (0:UInt32)),(PV.sc EK.u32 (0:UInt32)),(PV.sc EK.u32 (0:UInt32)),(PV.arr EK.u8 32 (Vector.replicate 32 (0:UInt8))),(PV.arr EK.u8 32 (Vector.replicate 32 (0:UInt8)))])),(PV.arr EK.u8 32 (Vector.replicate 32 (0:UInt8)))]) (0:Nat) (PV.arr EK.u8 32 (idV (Vector.replicate 32 (0:UInt8)) (Vector.replicate 32 (0:UInt8)) (0:UInt32) (545259519:UInt32) (0:UInt32)))) (1:Nat) (PV.st  [(PV.arr EK.u8 32 (Vector.replicate 32 (0:UInt8))),(PV.arr EK.u8 32 (Vector.replicate 32 (0:UInt8))),(PV.sc EK.u32 (0:UInt32)),(PV.sc EK.u32 (545259519:UInt32)),(PV.sc EK.u32 (0:UInt32))])) (2:Nat) (PV.sc EK.i (-(1:Int)))) (4:Nat) (PV.arr EK.u64 4 (zbN (545259519:UInt32)))))],(mset ([]:List (PV × PV)) (PV.arr EK.u8 32 (idV (Vector.replicate 32 (0:UInt8)) (Vector.replicate 32 (0:UInt8)) (0:UInt32) (545259519:UInt32) (0:UInt32))) (PV.sc EK.i (0:Int))))
theorem zwY:tree_New=(tvNew.best,tvNew.blocks,tvNew.ids):=by
 rw[tree_New.eq_1,zFD,zlU]
 rfl
end
end Go.Proofs.YtnolgfdjcipmmaaDoor.M
namespace Go.Proofs.YtnolgfdjcipmmaaDoor.M
open Go
noncomputable section
def tree_none (blocks:List PV) (ids:List (PV × PV)) (best:Int):Option (Bool × Int × List PV × (List (PV × PV))) :=
 if(((PV.flats (List.map (fun(z4:PV × PV)=>(Prod.fst z4)) ids)) && (PV.flats (List.map (fun(z4:PV × PV)=>(Prod.snd z4)) ids)))=true)∧((PV.flats blocks)=true) then
  some (false,best,blocks,ids)
 else none
theorem zuz (blocks:List PV) (ids:List (PV × PV)) (best:Int) (h:tvC (TV.mk blocks ids best)):tree_none blocks ids best=some (false,best,blocks,ids):=by
 rw[tree_none.eq_1,if_pos h.flats]
end
end Go.Proofs.YtnolgfdjcipmmaaDoor.M
namespace Go.Proofs.YtnolgfdjcipmmaaDoor.M
open Go
noncomputable section
def tree_Best (blocks:List PV) (ids:List (PV × PV)) (best:Int):Option (Int × Int × List PV × (List (PV × PV))) :=
 if tvC (TV.mk blocks ids best) then
  if(((PV.flats (List.map (fun(z4:PV × PV)=>(Prod.fst z4)) ids)) && (PV.flats (List.map (fun(z4:PV × PV)=>(Prod.snd z4)) ids)))=true)∧((PV.flats blocks)=true) then
   some (best,best,blocks,ids)
  else none
 else none
theorem zue (blocks:List PV) (ids:List (PV × PV)) (best:Int) (h:tvC (TV.mk blocks ids best)):tree_Best blocks ids best=some (best,best,blocks,ids):=by
 rw[tree_Best.eq_1,if_pos h,if_pos h.flats]
end
end Go.Proofs.YtnolgfdjcipmmaaDoor.M
namespace Go.Proofs.YtnolgfdjcipmmaaDoor.M
open Go
noncomputable section
def tree_Add (
       blocks:List PV) (ids:List (PV × PV)) (best:Int) (h_1_Prev:Vector UInt8 32) (h_1_Root:Vector UInt8 32) (h_1_Time:UInt32) (h_1_Bits:UInt32) (h_1_Nonce:UInt32):Option (Int × Int × Int × List PV × (List (PV × PV))) :=
 if tvC (
     TV.mk blocks ids best) then
  if(
    (zic (
        zdc (PV.arr EK.u8 32 (idV h_1_Prev h_1_Root h_1_Time h_1_Bits h_1_Nonce))) ids)=true)∧(((List.all ids (fun(z9:PV × PV)=>((PV.isAgg (Prod.snd z9)) == (PV.isAgg (PV.sc EK.i (0:Int))))))=true)∧((TY.chk (TY.sc EK.i) (Option.getD (mget ids (PV.arr EK.u8 32 (idV h_1_Prev h_1_Root h_1_Time h_1_Bits h_1_Nonce))) (PV.sc EK.i (0:Int))))=true)) then
   bif Option.isSome (mget ids (PV.arr EK.u8 32 (idV h_1_Prev h_1_Root h_1_Time h_1_Bits h_1_Nonce))) then(if(((PV.flats (List.map (fun(z9:PV × PV)=>(Prod.fst z9)) ids)) && (PV.flats (List.map (fun(z9:PV × PV)=>(Prod.snd z9)) ids)))=true)∧((PV.flats blocks)=true) then
     some ((0:Int),(7:Int),best,blocks,ids)
    else none)
    else(
       if(
         (zic (
             zdc (PV.arr EK.u8 32 h_1_Prev)) ids)=true)∧(((List.all ids (fun(z9:PV × PV)=>((PV.isAgg (Prod.snd z9)) == (PV.isAgg (PV.sc EK.i (0:Int))))))=true)∧((TY.chk (TY.sc EK.i) (Option.getD (mget ids (PV.arr EK.u8 32 h_1_Prev)) (PV.sc EK.i (0:Int))))=true)) then
     bif !(
        Option.isSome (mget ids (PV.arr EK.u8 32 h_1_Prev))) then(if(((PV.flats (List.map (fun(z9:PV × PV)=>(Prod.fst z9)) ids)) && (PV.flats (List.map (fun(z9:PV × PV)=>(Prod.snd z9)) ids)))=true)∧((PV.flats blocks)=true) then
       some ((0:Int),(6:Int),best,blocks,ids)
      else none)
      else(
         bif !(
            decide (
                (ofE h_1_Bits)=(0:Int))) then(if(((PV.flats (List.map (fun(z9:PV × PV)=>(Prod.fst z9)) ids)) && (PV.flats (List.map (fun(z9:PV × PV)=>(Prod.snd z9)) ids)))=true)∧((PV.flats blocks)=true) then
        some ((0:Int),(5:Int),best,blocks,ids)
       else none)
       else(
          bif decide (
                (200:Int)≤(((List.length blocks):Nat):Int)) then(if(((PV.flats (List.map (fun(z9:PV × PV)=>(Prod.fst z9)) ids)) && (PV.flats (List.map (fun(z9:PV × PV)=>(Prod.snd z9)) ids)))=true)∧((PV.flats blocks)=true) then
         some ((0:Int),(3:Int),best,blocks,ids)
        else none)
        else(
           if(
             (0:Int)≤(PV.scv EK.i (Option.getD (mget ids (PV.arr EK.u8 32 h_1_Prev)) (PV.sc EK.i (0:Int)))))∧((PV.scv EK.i (Option.getD (mget ids (PV.arr EK.u8 32 h_1_Prev)) (PV.sc EK.i (0:Int)))) < (((List.length blocks):Nat):Int)) then
         if(
           TY.chk (
               TY.st  [(TY.arr EK.u8 32),(TY.st  [(TY.arr EK.u8 32),(TY.arr EK.u8 32),(TY.sc EK.u32),(TY.sc EK.u32),(TY.sc EK.u32)]),(TY.sc EK.i),(TY.sc EK.u32),(TY.arr EK.u64 4)]) (RC.get (RC.p 105 blocks)  [(PE.i (Int.toNat (PV.scv EK.i (Option.getD (mget ids (PV.arr EK.u8 32 h_1_Prev)) (PV.sc EK.i (0:Int))))))]))=true then
          if(
            TY.chk (
                TY.arr EK.u64 4) (RC.get (RC.p 105 blocks) ( [(PE.i (Int.toNat (PV.scv EK.i (Option.getD (mget ids (PV.arr EK.u8 32 h_1_Prev)) (PV.sc EK.i (0:Int))))))]++ [(PE.f 4)])))=true then
           bif addB (
                PV.vecv EK.u64 4 (RC.get (RC.p 105 blocks) ( [(PE.i (Int.toNat (PV.scv EK.i (Option.getD (mget ids (PV.arr EK.u8 32 h_1_Prev)) (PV.sc EK.i (0:Int))))))]++ [(PE.f 4)]))) (zbN h_1_Bits) then(if(TY.chk (TY.sc EK.u32) (RC.get (RC.p 105 blocks) ( [(PE.i (Int.toNat (PV.scv EK.i (Option.getD (mget ids (PV.arr EK.u8 32 h_1_Prev)) (PV.sc EK.i (0:Int))))))]++ [(PE.f 3)])))=true then
             if(
               ((
                List.length (blocks++ [(PV.st (List.set (List.set (List.set (List.set (List.set (List.reverse  [(PV.arr EK.u64 4 (Vector.replicate 4 (0:UInt64))),(PV.sc EK.u32 (0:UInt32)),(PV.sc EK.i (0:Int)),(PV.st (List.reverse  [(PV.sc EK.u32 (0:UInt32)),(PV.sc EK.u32 (0:UInt32)),(PV.sc EK.u32 (0:UInt32)),(PV.arr EK.u8 32 (Vector.replicate 32 (0:UInt8))),(PV.arr EK.u8 32 (Vector.replicate 32 (0:UInt8)))])),(PV.arr EK.u8 32 (Vector.replicate 32 (0:UInt8)))]) (0:Nat) (PV.arr EK.u8 32 (idV h_1_Prev h_1_Root h_1_Time h_1_Bits h_1_Nonce))) (1:Nat) (PV.st  [(PV.arr EK.u8 32 h_1_Prev),(PV.arr EK.u8 32 h_1_Root),(PV.sc EK.u32 h_1_Time),(PV.sc EK.u32 h_1_Bits),(PV.sc EK.u32 h_1_Nonce)])) (2:Nat) (TY.eta (TY.sc EK.i) (Option.getD (mget ids (PV.arr EK.u8 32 h_1_Prev)) (PV.sc EK.i (0:Int))))) (3:Nat) (PV.sc EK.u32 ((PV.scv EK.u32 (RC.get (RC.p 105 blocks) ( [(PE.i (Int.toNat (PV.scv EK.i (Option.getD (mget ids (PV.arr EK.u8 32 h_1_Prev)) (PV.sc EK.i (0:Int))))))]++ [(PE.f 3)])))+(1:UInt32)))) (4:Nat) (PV.arr EK.u64 4 (subV (Vector.replicate 4 (0:UInt64)) (uW (1:Nat))))))]))*(160:Nat))≤(70368744177664:Nat))∧((List.length (blocks++ [(PV.st (List.set (List.set (List.set (List.set (List.set (List.reverse  [(PV.arr EK.u64 4 (Vector.replicate 4 (0:UInt64))),(PV.sc EK.u32 (0:UInt32)),(PV.sc EK.i (0:Int)),(PV.st (List.reverse  [(PV.sc EK.u32 (0:UInt32)),(PV.sc EK.u32 (0:UInt32)),(PV.sc EK.u32 (0:UInt32)),(PV.arr EK.u8 32 (Vector.replicate 32 (0:UInt8))),(PV.arr EK.u8 32 (Vector.replicate 32 (0:UInt8)))])),(PV.arr EK.u8 32 (Vector.replicate 32 (0:UInt8)))]) (0:Nat) (PV.arr EK.u8 32 (idV h_1_Prev h_1_Root h_1_Time h_1_Bits h_1_Nonce))) (1:Nat) (PV.st  [(PV.arr EK.u8 32 h_1_Prev),(PV.arr EK.u8 32 h_1_Root),(PV.sc EK.u32 h_1_Time),(PV.sc EK.u32 h_1_Bits),(PV.sc EK.u32 h_1_Nonce)])) (2:Nat) (TY.eta (TY.sc EK.i) (Option.getD (mget ids (PV.arr EK.u8 32 h_1_Prev)) (PV.sc EK.i (0:Int))))) (3:Nat) (PV.sc EK.u32 ((PV.scv EK.u32 (RC.get (RC.p 105 blocks) ( [(PE.i (Int.toNat (PV.scv EK.i (Option.getD (mget ids (PV.arr EK.u8 32 h_1_Prev)) (PV.sc EK.i (0:Int))))))]++ [(PE.f 3)])))+(1:UInt32)))) (4:Nat) (PV.arr EK.u64 4 (subV (Vector.replicate 4 (0:UInt64)) (uW (1:Nat))))))]))≤(70368744177664:Nat)) then
              if(
                zic (zdc (PV.arr EK.u8 32 (idV h_1_Prev h_1_Root h_1_Time h_1_Bits h_1_Nonce))) ids)=true then
               if(
                 (0:Int)≤best)∧(best < (((List.length (blocks++ [(PV.st (List.set (List.set (List.set (List.set (List.set (List.reverse  [(PV.arr EK.u64 4 (Vector.replicate 4 (0:UInt64))),(PV.sc EK.u32 (0:UInt32)),(PV.sc EK.i (0:Int)),(PV.st (List.reverse  [(PV.sc EK.u32 (0:UInt32)),(PV.sc EK.u32 (0:UInt32)),(PV.sc EK.u32 (0:UInt32)),(PV.arr EK.u8 32 (Vector.replicate 32 (0:UInt8))),(PV.arr EK.u8 32 (Vector.replicate 32 (0:UInt8)))])),(PV.arr EK.u8 32 (Vector.replicate 32 (0:UInt8)))]) (0:Nat) (PV.arr EK.u8 32 (idV h_1_Prev h_1_Root h_1_Time h_1_Bits h_1_Nonce))) (1:Nat) (PV.st  [(PV.arr EK.u8 32 h_1_Prev),(PV.arr EK.u8 32 h_1_Root),(PV.sc EK.u32 h_1_Time),(PV.sc EK.u32 h_1_Bits),(PV.sc EK.u32 h_1_Nonce)])) (2:Nat) (TY.eta (TY.sc EK.i) (Option.getD (mget ids (PV.arr EK.u8 32 h_1_Prev)) (PV.sc EK.i (0:Int))))) (3:Nat) (PV.sc EK.u32 ((PV.scv EK.u32 (RC.get (RC.p 105 blocks) ( [(PE.i (Int.toNat (PV.scv EK.i (Option.getD (mget ids (PV.arr EK.u8 32 h_1_Prev)) (PV.sc EK.i (0:Int))))))]++ [(PE.f 3)])))+(1:UInt32)))) (4:Nat) (PV.arr EK.u64 4 (subV (Vector.replicate 4 (0:UInt64)) (uW (1:Nat))))))])):Nat):Int)) then
                if(
                  TY.chk (TY.st  [(TY.arr EK.u8 32),(TY.st  [(TY.arr EK.u8 32),(TY.arr EK.u8 32),(TY.sc EK.u32),(TY.sc EK.u32),(TY.sc EK.u32)]),(TY.sc EK.i),(TY.sc EK.u32),(TY.arr EK.u64 4)]) (RC.get (RC.p 105 (blocks++ [(PV.st (List.set (List.set (List.set (List.set (List.set (List.reverse  [(PV.arr EK.u64 4 (Vector.replicate 4 (0:UInt64))),(PV.sc EK.u32 (0:UInt32)),(PV.sc EK.i (0:Int)),(PV.st (List.reverse  [(PV.sc EK.u32 (0:UInt32)),(PV.sc EK.u32 (0:UInt32)),(PV.sc EK.u32 (0:UInt32)),(PV.arr EK.u8 32 (Vector.replicate 32 (0:UInt8))),(PV.arr EK.u8 32 (Vector.replicate 32 (0:UInt8)))])),(PV.arr EK.u8 32 (Vector.replicate 32 (0:UInt8)))]) (0:Nat) (PV.arr EK.u8 32 (idV h_1_Prev h_1_Root h_1_Time h_1_Bits h_1_Nonce))) (1:Nat) (PV.st  [(PV.arr EK.u8 32 h_1_Prev),(PV.arr EK.u8 32 h_1_Root),(PV.sc EK.u32 h_1_Time),(PV.sc EK.u32 h_1_Bits),(PV.sc EK.u32 h_1_Nonce)])) (2:Nat) (TY.eta (TY.sc EK.i) (Option.getD (mget ids (PV.arr EK.u8 32 h_1_Prev)) (PV.sc EK.i (0:Int))))) (3:Nat) (PV.sc EK.u32 ((PV.scv EK.u32 (RC.get (RC.p 105 blocks) ( [(PE.i (Int.toNat (PV.scv EK.i (Option.getD (mget ids (PV.arr EK.u8 32 h_1_Prev)) (PV.sc EK.i (0:Int))))))]++ [(PE.f 3)])))+(1:UInt32)))) (4:Nat) (PV.arr EK.u64 4 (subV (Vector.replicate 4 (0:UInt64)) (uW (1:Nat))))))]))  [(PE.i (Int.toNat best))]))=true then
                 if(
                   TY.chk (TY.arr EK.u64 4) (RC.get (RC.p 105 (blocks++ [(PV.st (List.set (List.set (List.set (List.set (List.set (List.reverse  [(PV.arr EK.u64 4 (Vector.replicate 4 (0:UInt64))),(PV.sc EK.u32 (0:UInt32)),(PV.sc EK.i (0:Int)),(PV.st (List.reverse  [(PV.sc EK.u32 (0:UInt32)),(PV.sc EK.u32 (0:UInt32)),(PV.sc EK.u32 (0:UInt32)),(PV.arr EK.u8 32 (Vector.replicate 32 (0:UInt8))),(PV.arr EK.u8 32 (Vector.replicate 32 (0:UInt8)))])),(PV.arr EK.u8 32 (Vector.replicate 32 (0:UInt8)))]) (0:Nat) (PV.arr EK.u8 32 (idV h_1_Prev h_1_Root h_1_Time h_1_Bits h_1_Nonce))) (1:Nat) (PV.st  [(PV.arr EK.u8 32 h_1_Prev),(PV.arr EK.u8 32 h_1_Root),(PV.sc EK.u32 h_1_Time),(PV.sc EK.u32 h_1_Bits),(PV.sc EK.u32 h_1_Nonce)])) (2:Nat) (TY.eta (TY.sc EK.i) (Option.getD (mget ids (PV.arr EK.u8 32 h_1_Prev)) (PV.sc EK.i (0:Int))))) (3:Nat) (PV.sc EK.u32 ((PV.scv EK.u32 (RC.get (RC.p 105 blocks) ( [(PE.i (Int.toNat (PV.scv EK.i (Option.getD (mget ids (PV.arr EK.u8 32 h_1_Prev)) (PV.sc EK.i (0:Int))))))]++ [(PE.f 3)])))+(1:UInt32)))) (4:Nat) (PV.arr EK.u64 4 (subV (Vector.replicate 4 (0:UInt64)) (uW (1:Nat))))))])) ( [(PE.i (Int.toNat best))]++ [(PE.f 4)])))=true then
                  bif subB (PV.vecv EK.u64 4 (RC.get (RC.p 105 (blocks++ [(PV.st (List.set (List.set (List.set (List.set (List.set (List.reverse  [(PV.arr EK.u64 4 (Vector.replicate 4 (0:UInt64))),(PV.sc EK.u32 (0:UInt32)),(PV.sc EK.i (0:Int)),(PV.st (List.reverse  [(PV.sc EK.u32 (0:UInt32)),(PV.sc EK.u32 (0:UInt32)),(PV.sc EK.u32 (0:UInt32)),(PV.arr EK.u8 32 (Vector.replicate 32 (0:UInt8))),(PV.arr EK.u8 32 (Vector.replicate 32 (0:UInt8)))])),(PV.arr EK.u8 32 (Vector.replicate 32 (0:UInt8)))]) (0:Nat) (PV.arr EK.u8 32 (idV h_1_Prev h_1_Root h_1_Time h_1_Bits h_1_Nonce))) (1:Nat) (PV.st  [(PV.arr EK.u8 32 h_1_Prev),(PV.arr EK.u8 32 h_1_Root),(PV.sc EK.u32 h_1_Time),(PV.sc EK.u32 h_1_Bits),(PV.sc EK.u32 h_1_Nonce)])) (2:Nat) (TY.eta (TY.sc EK.i) (Option.getD (mget ids (PV.arr EK.u8 32 h_1_Prev)) (PV.sc EK.i (0:Int))))) (3:Nat) (PV.sc EK.u32 ((PV.scv EK.u32 (RC.get (RC.p 105 blocks) ( [(PE.i (Int.toNat (PV.scv EK.i (Option.getD (mget ids (PV.arr EK.u8 32 h_1_Prev)) (PV.sc EK.i (0:Int))))))]++ [(PE.f 3)])))+(1:UInt32)))) (4:Nat) (PV.arr EK.u64 4 (subV (Vector.replicate 4 (0:UInt64)) (uW (1:Nat))))))])) ( [(PE.i (Int.toNat best))]++ [(PE.f 4)]))) (subV (Vector.replicate 4 (0:UInt64)) (uW (1:Nat))) then(if(((PV.flats (List.map (fun(z9:PV × PV)=>(Prod.fst z9)) (mset ids (PV.arr EK.u8 32 (idV h_1_Prev h_1_Root h_1_Time h_1_Bits h_1_Nonce)) (PV.sc EK.i (((List.length blocks):Nat):Int))))) && (PV.flats (List.map (fun(z9:PV × PV)=>(Prod.snd z9)) (mset ids (PV.arr EK.u8 32 (idV h_1_Prev h_1_Root h_1_Time h_1_Bits h_1_Nonce)) (PV.sc EK.i (((List.length blocks):Nat):Int))))))=true)∧((PV.flats (blocks++ [(PV.st (List.set (List.set (List.set (List.set (List.set (List.reverse  [(PV.arr EK.u64 4 (Vector.replicate 4 (0:UInt64))),(PV.sc EK.u32 (0:UInt32)),(PV.sc EK.i (0:Int)),(PV.st (List.reverse  [(PV.sc EK.u32 (0:UInt32)),(PV.sc EK.u32 (0:UInt32)),(PV.sc EK.u32 (0:UInt32)),(PV.arr EK.u8 32 (Vector.replicate 32 (0:UInt8))),(PV.arr EK.u8 32 (Vector.replicate 32 (0:UInt8)))])),(PV.arr EK.u8 32 (Vector.replicate 32 (0:UInt8)))]) (0:Nat) (PV.arr EK.u8 32 (idV h_1_Prev h_1_Root h_1_Time h_1_Bits h_1_Nonce))) (1:Nat) (PV.st  [(PV.arr EK.u8 32 h_1_Prev),(PV.arr EK.u8 32 h_1_Root),(PV.sc EK.u32 h_1_Time),(PV.sc EK.u32 h_1_Bits),(PV.sc EK.u32 h_1_Nonce)])) (2:Nat) (TY.eta (TY.sc EK.i) (Option.getD (mget ids (PV.arr EK.u8 32 h_1_Prev)) (PV.sc EK.i (0:Int))))) (3:Nat) (PV.sc EK.u32 ((PV.scv EK.u32 (RC.get (RC.p 105 blocks) ( [(PE.i (Int.toNat (PV.scv EK.i (Option.getD (mget ids (PV.arr EK.u8 32 h_1_Prev)) (PV.sc EK.i (0:Int))))))]++ [(PE.f 3)])))+(1:UInt32)))) (4:Nat) (PV.arr EK.u64 4 (subV (Vector.replicate 4 (0:UInt64)) (uW (1:Nat))))))]))=true) then
                    some ((((List.length blocks):Nat):Int),(0:Int),(((List.length blocks):Nat):Int),(blocks++ [(PV.st (List.set (List.set (List.set (List.set (List.set (List.reverse  [(PV.arr EK.u64 4 (Vector.replicate 4 (0:UInt64))),(PV.sc EK.u32 (0:UInt32)),(PV.sc EK.i (0:Int)),(PV.st (List.reverse  [(PV.sc EK.u32 (0:UInt32)),(PV.sc EK.u32 (0:UInt32)),(PV.sc EK.u32 (0:UInt32)),(PV.arr EK.u8 32 (Vector.replicate 32 (0:UInt8))),(PV.arr EK.u8 32 (Vector.replicate 32 (0:UInt8)))])),(PV.arr EK.u8 32 (Vector.replicate 32 (0:UInt8)))]) (0:Nat) (PV.arr EK.u8 32 (idV h_1_Prev h_1_Root h_1_Time h_1_Bits h_1_Nonce))) (1:Nat) (PV.st  [(PV.arr EK.u8 32 h_1_Prev),(PV.arr EK.u8 32 h_1_Root),(PV.sc EK.u32 h_1_Time),(PV.sc EK.u32 h_1_Bits),(PV.sc EK.u32 h_1_Nonce)])) (2:Nat) (TY.eta (TY.sc EK.i) (Option.getD (mget ids (PV.arr EK.u8 32 h_1_Prev)) (PV.sc EK.i (0:Int))))) (3:Nat) (PV.sc EK.u32 ((PV.scv EK.u32 (RC.get (RC.p 105 blocks) ( [(PE.i (Int.toNat (PV.scv EK.i (Option.getD (mget ids (PV.arr EK.u8 32 h_1_Prev)) (PV.sc EK.i (0:Int))))))]++ [(PE.f 3)])))+(1:UInt32)))) (4:Nat) (PV.arr EK.u64 4 (subV (Vector.replicate 4 (0:UInt64)) (uW (1:Nat))))))]),(mset ids (PV.arr EK.u8 32 (idV h_1_Prev h_1_Root h_1_Time h_1_Bits h_1_Nonce)) (PV.sc EK.i (((List.length blocks):Nat):Int))))
                   else none)
                   else(if(((PV.flats (List.map (fun(z9:PV × PV)=>(Prod.fst z9)) (mset ids (PV.arr EK.u8 32 (idV h_1_Prev h_1_Root h_1_Time h_1_Bits h_1_Nonce)) (PV.sc EK.i (((List.length blocks):Nat):Int))))) && (PV.flats (List.map (fun(z9:PV × PV)=>(Prod.snd z9)) (mset ids (PV.arr EK.u8 32 (idV h_1_Prev h_1_Root h_1_Time h_1_Bits h_1_Nonce)) (PV.sc EK.i (((List.length blocks):Nat):Int))))))=true)∧((PV.flats (blocks++ [(PV.st (List.set (List.set (List.set (List.set (List.set (List.reverse  [(PV.arr EK.u64 4 (Vector.replicate 4 (0:UInt64))),(PV.sc EK.u32 (0:UInt32)),(PV.sc EK.i (0:Int)),(PV.st (List.reverse  [(PV.sc EK.u32 (0:UInt32)),(PV.sc EK.u32 (0:UInt32)),(PV.sc EK.u32 (0:UInt32)),(PV.arr EK.u8 32 (Vector.replicate 32 (0:UInt8))),(PV.arr EK.u8 32 (Vector.replicate 32 (0:UInt8)))])),(PV.arr EK.u8 32 (Vector.replicate 32 (0:UInt8)))]) (0:Nat) (PV.arr EK.u8 32 (idV h_1_Prev h_1_Root h_1_Time h_1_Bits h_1_Nonce))) (1:Nat) (PV.st  [(PV.arr EK.u8 32 h_1_Prev),(PV.arr EK.u8 32 h_1_Root),(PV.sc EK.u32 h_1_Time),(PV.sc EK.u32 h_1_Bits),(PV.sc EK.u32 h_1_Nonce)])) (2:Nat) (TY.eta (TY.sc EK.i) (Option.getD (mget ids (PV.arr EK.u8 32 h_1_Prev)) (PV.sc EK.i (0:Int))))) (3:Nat) (PV.sc EK.u32 ((PV.scv EK.u32 (RC.get (RC.p 105 blocks) ( [(PE.i (Int.toNat (PV.scv EK.i (Option.getD (mget ids (PV.arr EK.u8 32 h_1_Prev)) (PV.sc EK.i (0:Int))))))]++ [(PE.f 3)])))+(1:UInt32)))) (4:Nat) (PV.arr EK.u64 4 (subV (Vector.replicate 4 (0:UInt64)) (uW (1:Nat))))))]))=true) then
                    some ((((List.length blocks):Nat):Int),(0:Int),best,(blocks++ [(PV.st (List.set (List.set (List.set (List.set (List.set (List.reverse  [(PV.arr EK.u64 4 (Vector.replicate 4 (0:UInt64))),(PV.sc EK.u32 (0:UInt32)),(PV.sc EK.i (0:Int)),(PV.st (List.reverse  [(PV.sc EK.u32 (0:UInt32)),(PV.sc EK.u32 (0:UInt32)),(PV.sc EK.u32 (0:UInt32)),(PV.arr EK.u8 32 (Vector.replicate 32 (0:UInt8))),(PV.arr EK.u8 32 (Vector.replicate 32 (0:UInt8)))])),(PV.arr EK.u8 32 (Vector.replicate 32 (0:UInt8)))]) (0:Nat) (PV.arr EK.u8 32 (idV h_1_Prev h_1_Root h_1_Time h_1_Bits h_1_Nonce))) (1:Nat) (PV.st  [(PV.arr EK.u8 32 h_1_Prev),(PV.arr EK.u8 32 h_1_Root),(PV.sc EK.u32 h_1_Time),(PV.sc EK.u32 h_1_Bits),(PV.sc EK.u32 h_1_Nonce)])) (2:Nat) (TY.eta (TY.sc EK.i) (Option.getD (mget ids (PV.arr EK.u8 32 h_1_Prev)) (PV.sc EK.i (0:Int))))) (3:Nat) (PV.sc EK.u32 ((PV.scv EK.u32 (RC.get (RC.p 105 blocks) ( [(PE.i (Int.toNat (PV.scv EK.i (Option.getD (mget ids (PV.arr EK.u8 32 h_1_Prev)) (PV.sc EK.i (0:Int))))))]++ [(PE.f 3)])))+(1:UInt32)))) (4:Nat) (PV.arr EK.u64 4 (subV (Vector.replicate 4 (0:UInt64)) (uW (1:Nat))))))]),(mset ids (PV.arr EK.u8 32 (idV h_1_Prev h_1_Root h_1_Time h_1_Bits h_1_Nonce)) (PV.sc EK.i (((List.length blocks):Nat):Int))))
                   else none)
                 else none
                else none
               else none
              else none
             else none
            else none)
            else(
               if(
                 TY.chk (TY.sc EK.u32) (RC.get (RC.p 105 blocks) ( [(PE.i (Int.toNat (PV.scv EK.i (Option.getD (mget ids (PV.arr EK.u8 32 h_1_Prev)) (PV.sc EK.i (0:Int))))))]++ [(PE.f 3)])))=true then
             if(
               ((
                List.length (blocks++ [(PV.st (List.set (List.set (List.set (List.set (List.set (List.reverse  [(PV.arr EK.u64 4 (Vector.replicate 4 (0:UInt64))),(PV.sc EK.u32 (0:UInt32)),(PV.sc EK.i (0:Int)),(PV.st (List.reverse  [(PV.sc EK.u32 (0:UInt32)),(PV.sc EK.u32 (0:UInt32)),(PV.sc EK.u32 (0:UInt32)),(PV.arr EK.u8 32 (Vector.replicate 32 (0:UInt8))),(PV.arr EK.u8 32 (Vector.replicate 32 (0:UInt8)))])),(PV.arr EK.u8 32 (Vector.replicate 32 (0:UInt8)))]) (0:Nat) (PV.arr EK.u8 32 (idV h_1_Prev h_1_Root h_1_Time h_1_Bits h_1_Nonce))) (1:Nat) (PV.st  [(PV.arr EK.u8 32 h_1_Prev),(PV.arr EK.u8 32 h_1_Root),(PV.sc EK.u32 h_1_Time),(PV.sc EK.u32 h_1_Bits),(PV.sc EK.u32 h_1_Nonce)])) (2:Nat) (TY.eta (TY.sc EK.i) (Option.getD (mget ids (PV.arr EK.u8 32 h_1_Prev)) (PV.sc EK.i (0:Int))))) (3:Nat) (PV.sc EK.u32 ((PV.scv EK.u32 (RC.get (RC.p 105 blocks) ( [(PE.i (Int.toNat (PV.scv EK.i (Option.getD (mget ids (PV.arr EK.u8 32 h_1_Prev)) (PV.sc EK.i (0:Int))))))]++ [(PE.f 3)])))+(1:UInt32)))) (4:Nat) (PV.arr EK.u64 4 (addV (PV.vecv EK.u64 4 (RC.get (RC.p 105 blocks) ( [(PE.i (Int.toNat (PV.scv EK.i (Option.getD (mget ids (PV.arr EK.u8 32 h_1_Prev)) (PV.sc EK.i (0:Int))))))]++ [(PE.f 4)]))) (zbN h_1_Bits)))))]))*(160:Nat))≤(70368744177664:Nat))∧((List.length (blocks++ [(PV.st (List.set (List.set (List.set (List.set (List.set (List.reverse  [(PV.arr EK.u64 4 (Vector.replicate 4 (0:UInt64))),(PV.sc EK.u32 (0:UInt32)),(PV.sc EK.i (0:Int)),(PV.st (List.reverse  [(PV.sc EK.u32 (0:UInt32)),(PV.sc EK.u32 (0:UInt32)),(PV.sc EK.u32 (0:UInt32)),(PV.arr EK.u8 32 (Vector.replicate 32 (0:UInt8))),(PV.arr EK.u8 32 (Vector.replicate 32 (0:UInt8)))])),(PV.arr EK.u8 32 (Vector.replicate 32 (0:UInt8)))]) (0:Nat) (PV.arr EK.u8 32 (idV h_1_Prev h_1_Root h_1_Time h_1_Bits h_1_Nonce))) (1:Nat) (PV.st  [(PV.arr EK.u8 32 h_1_Prev),(PV.arr EK.u8 32 h_1_Root),(PV.sc EK.u32 h_1_Time),(PV.sc EK.u32 h_1_Bits),(PV.sc EK.u32 h_1_Nonce)])) (2:Nat) (TY.eta (TY.sc EK.i) (Option.getD (mget ids (PV.arr EK.u8 32 h_1_Prev)) (PV.sc EK.i (0:Int))))) (3:Nat) (PV.sc EK.u32 ((PV.scv EK.u32 (RC.get (RC.p 105 blocks) ( [(PE.i (Int.toNat (PV.scv EK.i (Option.getD (mget ids (PV.arr EK.u8 32 h_1_Prev)) (PV.sc EK.i (0:Int))))))]++ [(PE.f 3)])))+(1:UInt32)))) (4:Nat) (PV.arr EK.u64 4 (addV (PV.vecv EK.u64 4 (RC.get (RC.p 105 blocks) ( [(PE.i (Int.toNat (PV.scv EK.i (Option.getD (mget ids (PV.arr EK.u8 32 h_1_Prev)) (PV.sc EK.i (0:Int))))))]++ [(PE.f 4)]))) (zbN h_1_Bits)))))]))≤(70368744177664:Nat)) then
              if(
                zic (zdc (PV.arr EK.u8 32 (idV h_1_Prev h_1_Root h_1_Time h_1_Bits h_1_Nonce))) ids)=true then
               if(
                 (0:Int)≤best)∧(best < (((List.length (blocks++ [(PV.st (List.set (List.set (List.set (List.set (List.set (List.reverse  [(PV.arr EK.u64 4 (Vector.replicate 4 (0:UInt64))),(PV.sc EK.u32 (0:UInt32)),(PV.sc EK.i (0:Int)),(PV.st (List.reverse  [(PV.sc EK.u32 (0:UInt32)),(PV.sc EK.u32 (0:UInt32)),(PV.sc EK.u32 (0:UInt32)),(PV.arr EK.u8 32 (Vector.replicate 32 (0:UInt8))),(PV.arr EK.u8 32 (Vector.replicate 32 (0:UInt8)))])),(PV.arr EK.u8 32 (Vector.replicate 32 (0:UInt8)))]) (0:Nat) (PV.arr EK.u8 32 (idV h_1_Prev h_1_Root h_1_Time h_1_Bits h_1_Nonce))) (1:Nat) (PV.st  [(PV.arr EK.u8 32 h_1_Prev),(PV.arr EK.u8 32 h_1_Root),(PV.sc EK.u32 h_1_Time),(PV.sc EK.u32 h_1_Bits),(PV.sc EK.u32 h_1_Nonce)])) (2:Nat) (TY.eta (TY.sc EK.i) (Option.getD (mget ids (PV.arr EK.u8 32 h_1_Prev)) (PV.sc EK.i (0:Int))))) (3:Nat) (PV.sc EK.u32 ((PV.scv EK.u32 (RC.get (RC.p 105 blocks) ( [(PE.i (Int.toNat (PV.scv EK.i (Option.getD (mget ids (PV.arr EK.u8 32 h_1_Prev)) (PV.sc EK.i (0:Int))))))]++ [(PE.f 3)])))+(1:UInt32)))) (4:Nat) (PV.arr EK.u64 4 (addV (PV.vecv EK.u64 4 (RC.get (RC.p 105 blocks) ( [(PE.i (Int.toNat (PV.scv EK.i (Option.getD (mget ids (PV.arr EK.u8 32 h_1_Prev)) (PV.sc EK.i (0:Int))))))]++ [(PE.f 4)]))) (zbN h_1_Bits)))))])):Nat):Int)) then
                if(
                  TY.chk (TY.st  [(TY.arr EK.u8 32),(TY.st  [(TY.arr EK.u8 32),(TY.arr EK.u8 32),(TY.sc EK.u32),(TY.sc EK.u32),(TY.sc EK.u32)]),(TY.sc EK.i),(TY.sc EK.u32),(TY.arr EK.u64 4)]) (RC.get (RC.p 105 (blocks++ [(PV.st (List.set (List.set (List.set (List.set (List.set (List.reverse  [(PV.arr EK.u64 4 (Vector.replicate 4 (0:UInt64))),(PV.sc EK.u32 (0:UInt32)),(PV.sc EK.i (0:Int)),(PV.st (List.reverse  [(PV.sc EK.u32 (0:UInt32)),(PV.sc EK.u32 (0:UInt32)),(PV.sc EK.u32 (0:UInt32)),(PV.arr EK.u8 32 (Vector.replicate 32 (0:UInt8))),(PV.arr EK.u8 32 (Vector.replicate 32 (0:UInt8)))])),(PV.arr EK.u8 32 (Vector.replicate 32 (0:UInt8)))]) (0:Nat) (PV.arr EK.u8 32 (idV h_1_Prev h_1_Root h_1_Time h_1_Bits h_1_Nonce))) (1:Nat) (PV.st  [(PV.arr EK.u8 32 h_1_Prev),(PV.arr EK.u8 32 h_1_Root),(PV.sc EK.u32 h_1_Time),(PV.sc EK.u32 h_1_Bits),(PV.sc EK.u32 h_1_Nonce)])) (2:Nat) (TY.eta (TY.sc EK.i) (Option.getD (mget ids (PV.arr EK.u8 32 h_1_Prev)) (PV.sc EK.i (0:Int))))) (3:Nat) (PV.sc EK.u32 ((PV.scv EK.u32 (RC.get (RC.p 105 blocks) ( [(PE.i (Int.toNat (PV.scv EK.i (Option.getD (mget ids (PV.arr EK.u8 32 h_1_Prev)) (PV.sc EK.i (0:Int))))))]++ [(PE.f 3)])))+(1:UInt32)))) (4:Nat) (PV.arr EK.u64 4 (addV (PV.vecv EK.u64 4 (RC.get (RC.p 105 blocks) ( [(PE.i (Int.toNat (PV.scv EK.i (Option.getD (mget ids (PV.arr EK.u8 32 h_1_Prev)) (PV.sc EK.i (0:Int))))))]++ [(PE.f 4)]))) (zbN h_1_Bits)))))]))  [(PE.i (Int.toNat best))]))=true then
                 if(
                   TY.chk (TY.arr EK.u64 4) (RC.get (RC.p 105 (blocks++ [(PV.st (List.set (List.set (List.set (List.set (List.set (List.reverse  [(PV.arr EK.u64 4 (Vector.replicate 4 (0:UInt64))),(PV.sc EK.u32 (0:UInt32)),(PV.sc EK.i (0:Int)),(PV.st (List.reverse  [(PV.sc EK.u32 (0:UInt32)),(PV.sc EK.u32 (0:UInt32)),(PV.sc EK.u32 (0:UInt32)),(PV.arr EK.u8 32 (Vector.replicate 32 (0:UInt8))),(PV.arr EK.u8 32 (Vector.replicate 32 (0:UInt8)))])),(PV.arr EK.u8 32 (Vector.replicate 32 (0:UInt8)))]) (0:Nat) (PV.arr EK.u8 32 (idV h_1_Prev h_1_Root h_1_Time h_1_Bits h_1_Nonce))) (1:Nat) (PV.st  [(PV.arr EK.u8 32 h_1_Prev),(PV.arr EK.u8 32 h_1_Root),(PV.sc EK.u32 h_1_Time),(PV.sc EK.u32 h_1_Bits),(PV.sc EK.u32 h_1_Nonce)])) (2:Nat) (TY.eta (TY.sc EK.i) (Option.getD (mget ids (PV.arr EK.u8 32 h_1_Prev)) (PV.sc EK.i (0:Int))))) (3:Nat) (PV.sc EK.u32 ((PV.scv EK.u32 (RC.get (RC.p 105 blocks) ( [(PE.i (Int.toNat (PV.scv EK.i (Option.getD (mget ids (PV.arr EK.u8 32 h_1_Prev)) (PV.sc EK.i (0:Int))))))]++ [(PE.f 3)])))+(1:UInt32)))) (4:Nat) (PV.arr EK.u64 4 (addV (PV.vecv EK.u64 4 (RC.get (RC.p 105 blocks) ( [(PE.i (Int.toNat (PV.scv EK.i (Option.getD (mget ids (PV.arr EK.u8 32 h_1_Prev)) (PV.sc EK.i (0:Int))))))]++ [(PE.f 4)]))) (zbN h_1_Bits)))))])) ( [(PE.i (Int.toNat best))]++ [(PE.f 4)])))=true then
                  bif subB (PV.vecv EK.u64 4 (RC.get (RC.p 105 (blocks++ [(PV.st (List.set (List.set (List.set (List.set (List.set (List.reverse  [(PV.arr EK.u64 4 (Vector.replicate 4 (0:UInt64))),(PV.sc EK.u32 (0:UInt32)),(PV.sc EK.i (0:Int)),(PV.st (List.reverse  [(PV.sc EK.u32 (0:UInt32)),(PV.sc EK.u32 (0:UInt32)),(PV.sc EK.u32 (0:UInt32)),(PV.arr EK.u8 32 (Vector.replicate 32 (0:UInt8))),(PV.arr EK.u8 32 (Vector.replicate 32 (0:UInt8)))])),(PV.arr EK.u8 32 (Vector.replicate 32 (0:UInt8)))]) (0:Nat) (PV.arr EK.u8 32 (idV h_1_Prev h_1_Root h_1_Time h_1_Bits h_1_Nonce))) (1:Nat) (PV.st  [(PV.arr EK.u8 32 h_1_Prev),(PV.arr EK.u8 32 h_1_Root),(PV.sc EK.u32 h_1_Time),(PV.sc EK.u32 h_1_Bits),(PV.sc EK.u32 h_1_Nonce)])) (2:Nat) (TY.eta (TY.sc EK.i) (Option.getD (mget ids (PV.arr EK.u8 32 h_1_Prev)) (PV.sc EK.i (0:Int))))) (3:Nat) (PV.sc EK.u32 ((PV.scv EK.u32 (RC.get (RC.p 105 blocks) ( [(PE.i (Int.toNat (PV.scv EK.i (Option.getD (mget ids (PV.arr EK.u8 32 h_1_Prev)) (PV.sc EK.i (0:Int))))))]++ [(PE.f 3)])))+(1:UInt32)))) (4:Nat) (PV.arr EK.u64 4 (addV (PV.vecv EK.u64 4 (RC.get (RC.p 105 blocks) ( [(PE.i (Int.toNat (PV.scv EK.i (Option.getD (mget ids (PV.arr EK.u8 32 h_1_Prev)) (PV.sc EK.i (0:Int))))))]++ [(PE.f 4)]))) (zbN h_1_Bits)))))])) ( [(PE.i (Int.toNat best))]++ [(PE.f 4)]))) (addV (PV.vecv EK.u64 4 (RC.get (RC.p 105 blocks) ( [(PE.i (Int.toNat (PV.scv EK.i (Option.getD (mget ids (PV.arr EK.u8 32 h_1_Prev)) (PV.sc EK.i (0:Int))))))]++ [(PE.f 4)]))) (zbN h_1_Bits)) then(if(((PV.flats (List.map (fun(z9:PV × PV)=>(Prod.fst z9)) (mset ids (PV.arr EK.u8 32 (idV h_1_Prev h_1_Root h_1_Time h_1_Bits h_1_Nonce)) (PV.sc EK.i (((List.length blocks):Nat):Int))))) && (PV.flats (List.map (fun(z9:PV × PV)=>(Prod.snd z9)) (mset ids (PV.arr EK.u8 32 (idV h_1_Prev h_1_Root h_1_Time h_1_Bits h_1_Nonce)) (PV.sc EK.i (((List.length blocks):Nat):Int))))))=true)∧((PV.flats (blocks++ [(PV.st (List.set (List.set (List.set (List.set (List.set (List.reverse  [(PV.arr EK.u64 4 (Vector.replicate 4 (0:UInt64))),(PV.sc EK.u32 (0:UInt32)),(PV.sc EK.i (0:Int)),(PV.st (List.reverse  [(PV.sc EK.u32 (0:UInt32)),(PV.sc EK.u32 (0:UInt32)),(PV.sc EK.u32 (0:UInt32)),(PV.arr EK.u8 32 (Vector.replicate 32 (0:UInt8))),(PV.arr EK.u8 32 (Vector.replicate 32 (0:UInt8)))])),(PV.arr EK.u8 32 (Vector.replicate 32 (0:UInt8)))]) (0:Nat) (PV.arr EK.u8 32 (idV h_1_Prev h_1_Root h_1_Time h_1_Bits h_1_Nonce))) (1:Nat) (PV.st  [(PV.arr EK.u8 32 h_1_Prev),(PV.arr EK.u8 32 h_1_Root),(PV.sc EK.u32 h_1_Time),(PV.sc EK.u32 h_1_Bits),(PV.sc EK.u32 h_1_Nonce)])) (2:Nat) (TY.eta (TY.sc EK.i) (Option.getD (mget ids (PV.arr EK.u8 32 h_1_Prev)) (PV.sc EK.i (0:Int))))) (3:Nat) (PV.sc EK.u32 ((PV.scv EK.u32 (RC.get (RC.p 105 blocks) ( [(PE.i (Int.toNat (PV.scv EK.i (Option.getD (mget ids (PV.arr EK.u8 32 h_1_Prev)) (PV.sc EK.i (0:Int))))))]++ [(PE.f 3)])))+(1:UInt32)))) (4:Nat) (PV.arr EK.u64 4 (addV (PV.vecv EK.u64 4 (RC.get (RC.p 105 blocks) ( [(PE.i (Int.toNat (PV.scv EK.i (Option.getD (mget ids (PV.arr EK.u8 32 h_1_Prev)) (PV.sc EK.i (0:Int))))))]++ [(PE.f 4)]))) (zbN h_1_Bits)))))]))=true) then
                    some ((((List.length blocks):Nat):Int),(0:Int),(((List.length blocks):Nat):Int),(blocks++ [(PV.st (List.set (List.set (List.set (List.set (List.set (List.reverse  [(PV.arr EK.u64 4 (Vector.replicate 4 (0:UInt64))),(PV.sc EK.u32 (0:UInt32)),(PV.sc EK.i (0:Int)),(PV.st (List.reverse  [(PV.sc EK.u32 (0:UInt32)),(PV.sc EK.u32 (0:UInt32)),(PV.sc EK.u32 (0:UInt32)),(PV.arr EK.u8 32 (Vector.replicate 32 (0:UInt8))),(PV.arr EK.u8 32 (Vector.replicate 32 (0:UInt8)))])),(PV.arr EK.u8 32 (Vector.replicate 32 (0:UInt8)))]) (0:Nat) (PV.arr EK.u8 32 (idV h_1_Prev h_1_Root h_1_Time h_1_Bits h_1_Nonce))) (1:Nat) (PV.st  [(PV.arr EK.u8 32 h_1_Prev),(PV.arr EK.u8 32 h_1_Root),(PV.sc EK.u32 h_1_Time),(PV.sc EK.u32 h_1_Bits),(PV.sc EK.u32 h_1_Nonce)])) (2:Nat) (TY.eta (TY.sc EK.i) (Option.getD (mget ids (PV.arr EK.u8 32 h_1_Prev)) (PV.sc EK.i (0:Int))))) (3:Nat) (PV.sc EK.u32 ((PV.scv EK.u32 (RC.get (RC.p 105 blocks) ( [(PE.i (Int.toNat (PV.scv EK.i (Option.getD (mget ids (PV.arr EK.u8 32 h_1_Prev)) (PV.sc EK.i (0:Int))))))]++ [(PE.f 3)])))+(1:UInt32)))) (4:Nat) (PV.arr EK.u64 4 (addV (PV.vecv EK.u64 4 (RC.get (RC.p 105 blocks) ( [(PE.i (Int.toNat (PV.scv EK.i (Option.getD (mget ids (PV.arr EK.u8 32 h_1_Prev)) (PV.sc EK.i (0:Int))))))]++ [(PE.f 4)]))) (zbN h_1_Bits)))))]),(mset ids (PV.arr EK.u8 32 (idV h_1_Prev h_1_Root h_1_Time h_1_Bits h_1_Nonce)) (PV.sc EK.i (((List.length blocks):Nat):Int))))
                   else none)
                   else(if(((PV.flats (List.map (fun(z9:PV × PV)=>(Prod.fst z9)) (mset ids (PV.arr EK.u8 32 (idV h_1_Prev h_1_Root h_1_Time h_1_Bits h_1_Nonce)) (PV.sc EK.i (((List.length blocks):Nat):Int))))) && (PV.flats (List.map (fun(z9:PV × PV)=>(Prod.snd z9)) (mset ids (PV.arr EK.u8 32 (idV h_1_Prev h_1_Root h_1_Time h_1_Bits h_1_Nonce)) (PV.sc EK.i (((List.length blocks):Nat):Int))))))=true)∧((PV.flats (blocks++ [(PV.st (List.set (List.set (List.set (List.set (List.set (List.reverse  [(PV.arr EK.u64 4 (Vector.replicate 4 (0:UInt64))),(PV.sc EK.u32 (0:UInt32)),(PV.sc EK.i (0:Int)),(PV.st (List.reverse  [(PV.sc EK.u32 (0:UInt32)),(PV.sc EK.u32 (0:UInt32)),(PV.sc EK.u32 (0:UInt32)),(PV.arr EK.u8 32 (Vector.replicate 32 (0:UInt8))),(PV.arr EK.u8 32 (Vector.replicate 32 (0:UInt8)))])),(PV.arr EK.u8 32 (Vector.replicate 32 (0:UInt8)))]) (0:Nat) (PV.arr EK.u8 32 (idV h_1_Prev h_1_Root h_1_Time h_1_Bits h_1_Nonce))) (1:Nat) (PV.st  [(PV.arr EK.u8 32 h_1_Prev),(PV.arr EK.u8 32 h_1_Root),(PV.sc EK.u32 h_1_Time),(PV.sc EK.u32 h_1_Bits),(PV.sc EK.u32 h_1_Nonce)])) (2:Nat) (TY.eta (TY.sc EK.i) (Option.getD (mget ids (PV.arr EK.u8 32 h_1_Prev)) (PV.sc EK.i (0:Int))))) (3:Nat) (PV.sc EK.u32 ((PV.scv EK.u32 (RC.get (RC.p 105 blocks) ( [(PE.i (Int.toNat (PV.scv EK.i (Option.getD (mget ids (PV.arr EK.u8 32 h_1_Prev)) (PV.sc EK.i (0:Int))))))]++ [(PE.f 3)])))+(1:UInt32)))) (4:Nat) (PV.arr EK.u64 4 (addV (PV.vecv EK.u64 4 (RC.get (RC.p 105 blocks) ( [(PE.i (Int.toNat (PV.scv EK.i (Option.getD (mget ids (PV.arr EK.u8 32 h_1_Prev)) (PV.sc EK.i (0:Int))))))]++ [(PE.f 4)]))) (zbN h_1_Bits)))))]))=true) then
                    some ((((List.length blocks):Nat):Int),(0:Int),best,(blocks++ [(PV.st (List.set (List.set (List.set (List.set (List.set (List.reverse  [(PV.arr EK.u64 4 (Vector.replicate 4 (0:UInt64))),(PV.sc EK.u32 (0:UInt32)),(PV.sc EK.i (0:Int)),(PV.st (List.reverse  [(PV.sc EK.u32 (0:UInt32)),(PV.sc EK.u32 (0:UInt32)),(PV.sc EK.u32 (0:UInt32)),(PV.arr EK.u8 32 (Vector.replicate 32 (0:UInt8))),(PV.arr EK.u8 32 (Vector.replicate 32 (0:UInt8)))])),(PV.arr EK.u8 32 (Vector.replicate 32 (0:UInt8)))]) (0:Nat) (PV.arr EK.u8 32 (idV h_1_Prev h_1_Root h_1_Time h_1_Bits h_1_Nonce))) (1:Nat) (PV.st  [(PV.arr EK.u8 32 h_1_Prev),(PV.arr EK.u8 32 h_1_Root),(PV.sc EK.u32 h_1_Time),(PV.sc EK.u32 h_1_Bits),(PV.sc EK.u32 h_1_Nonce)])) (2:Nat) (TY.eta (TY.sc EK.i) (Option.getD (mget ids (PV.arr EK.u8 32 h_1_Prev)) (PV.sc EK.i (0:Int))))) (3:Nat) (PV.sc EK.u32 ((PV.scv EK.u32 (RC.get (RC.p 105 blocks) ( [(PE.i (Int.toNat (PV.scv EK.i (Option.getD (mget ids (PV.arr EK.u8 32 h_1_Prev)) (PV.sc EK.i (0:Int))))))]++ [(PE.f 3)])))+(1:UInt32)))) (4:Nat) (PV.arr EK.u64 4 (addV (PV.vecv EK.u64 4 (RC.get (RC.p 105 blocks) ( [(PE.i (Int.toNat (PV.scv EK.i (Option.getD (mget ids (PV.arr EK.u8 32 h_1_Prev)) (PV.sc EK.i (0:Int))))))]++ [(PE.f 4)]))) (zbN h_1_Bits)))))]),(mset ids (PV.arr EK.u8 32 (idV h_1_Prev h_1_Root h_1_Time h_1_Bits h_1_Nonce)) (PV.sc EK.i (((List.length blocks):Nat):Int))))
                   else none)
                 else none
                else none
               else none
              else none
             else none
            else none)
          else none
         else none
        else none)))
    else none)
  else none
 else none
theorem zxd (blocks:List PV) (ids:List (PV × PV)) (best:Int) (p r:Vector UInt8 32) (t b n:UInt32) (h:tvC (TV.mk blocks ids best)) :
  tree_Add blocks ids best p r t b n=some ((zaE (TV.mk blocks ids best) p r t b n).1,(zaE (TV.mk blocks ids best) p r t b n).2.1,(zaE (TV.mk blocks ids best) p r t b n).2.2.best,(zaE (TV.mk blocks ids best) p r t b n).2.2.blocks,(zaE (TV.mk blocks ids best) p r t b n).2.2.ids):=by
 have hfl:=h.flats
 have hC:=h
 obtain ⟨ks,ok,e⟩:=h.get
 rw[zDc,e,zxn]
 cases e
 have F1:=zDF ks (idV p r t b n)
 have F2:=zDF ks p
 have hbl:=zok ok.ne
 have hlen:=ok.len
 rw[tree_Add.eq_1,if_pos hC,if_pos F1,if_pos hfl,if_pos F2]
 unfold tAdd
 cases h1:zeJ ks (idV p r t b n) with
 | some i =>
  rw[zyx h1]
  rfl
 | none =>
  rw[zAH h1]
  simp only[Option.isSome_none,cond_false]
  cases h2:zeJ ks p with
  | none =>
   rw[zAH h2]
   simp only[Option.isSome_none,Bool.not_false,cond_true]
   rw[if_pos hfl]
   rfl
  | some i =>
   obtain ⟨hi,_⟩:=zrr h2
   rw[zyx h2]
   simp only[Option.isSome_some,Bool.not_true,cond_false,Option.getD_some,zJT,Int.toNat_natCast]
   by_cases h3:ofE b=0
   ·rw[decide_eq_true h3,if_neg (show ¬ (ofE b≠0)from fun q=>q h3)]
    simp only[Bool.not_true,cond_false,List.length_map]
    by_cases h4:200≤ks.length
    ·rw[decide_eq_true (show (200:Int)≤((ks.length:Nat):Int) by omega),if_pos h4]
     simp only[cond_true]
     rw[if_pos hfl]
     rfl
    ·rw[decide_eq_false (show ¬ (200:Int)≤((ks.length:Nat):Int) by omega),if_neg h4]
     simp only[cond_false]
     rw[if_pos (show (0:Int)≤((i:Nat):Int)∧((i:Nat):Int) < ((ks.length:Nat):Int) by omega),zBW hi,if_pos (show TY.chk (TY.st [TY.arr EK.u8 32,TY.st [TY.arr EK.u8 32,TY.arr EK.u8 32,TY.sc EK.u32,TY.sc EK.u32,TY.sc EK.u32],TY.sc EK.i,TY.sc EK.u32,TY.arr EK.u64 4]) (knPV (ks.getD i kn0))=true from rfl),zGl hi,zIk hi,if_pos (show TY.chk (TY.arr EK.u64 4) (PV.arr EK.u64 4 (ks.getD i kn0).work)=true from rfl)]
     have hN:∀ W:Vector UInt64 4,PV.st (List.set (List.set (List.set (List.set (List.set (List.reverse  [(PV.arr EK.u64 4 (Vector.replicate 4 (0:UInt64))),(PV.sc EK.u32 (0:UInt32)),(PV.sc EK.i (0:Int)),(PV.st (List.reverse  [(PV.sc EK.u32 (0:UInt32)),(PV.sc EK.u32 (0:UInt32)),(PV.sc EK.u32 (0:UInt32)),(PV.arr EK.u8 32 (Vector.replicate 32 (0:UInt8))),(PV.arr EK.u8 32 (Vector.replicate 32 (0:UInt8)))])),(PV.arr EK.u8 32 (Vector.replicate 32 (0:UInt8)))]) (0:Nat) (PV.arr EK.u8 32 (idV p r t b n))) (1:Nat) (PV.st  [(PV.arr EK.u8 32 p),(PV.arr EK.u8 32 r),(PV.sc EK.u32 t),(PV.sc EK.u32 b),(PV.sc EK.u32 n)])) (2:Nat) (TY.eta (TY.sc EK.i) (PV.sc EK.i (i:Int)))) (3:Nat) (PV.sc EK.u32 ((PV.scv EK.u32 (PV.sc EK.u32 (ks.getD i kn0).height))+(1:UInt32)))) (4:Nat) (PV.arr EK.u64 4 W))=knPV ⟨idV p r t b n,p,r,t,b,n,(i:Int),(ks.getD i kn0).height+1,W⟩:=fun W=>rfl
     have hid:(zdF ks i p r t b n).id=idV p r t b n:=rfl
     have hK:∀ W,W=(zdF ks i p r t b n).work→(⟨idV p r t b n,p,r,t,b,n,(i:Int),(ks.getD i kn0).height+1,W⟩:KN)=zdF ks i p r t b n:=fun W hW=>by rw[hW]; rfl
     rw[zlK]
     cases hab:addB (ks.getD i kn0).work (zbN b)
     case' true=>have hW:subV (Vector.replicate 4 0) (uW 1)=(zdF ks i p r t b n).work:=by show _=zkw _ _; unfold zkw; rw[hab]; rfl
     case' false=>have hW:addV (ks.getD i kn0).work (zbN b)=(zdF ks i p r t b n).work:=by show _=zkw _ _; unfold zkw; rw[hab]; rfl
     all_goals
      simp only[cond_true,cond_false,hN,hK _ hW]
      have hM:List.map knPV ks++[knPV (zdF ks i p r t b n)]=(ks++[zdF ks i p r t b n]).map knPV:=by rw[List.map_append]; rfl
      have hl2:(ks++[zdF ks i p r t b n]).length=ks.length+1:=by simp
      have hbl2:zaM ks < (ks++[zdF ks i p r t b n]).length:=by omega
      have hms:mset (za3 0 ks) (PV.arr EK.u8 32 (idV p r t b n)) (PV.sc EK.i ((ks.length:Nat):Int))=za3 0 (ks++[zdF ks i p r t b n]):=by
       rw[zDV ks 0 _ _ h1,zp3,Int.zero_add,hid]
      have hf2:=And.intro (ztp (ks++[zdF ks i p r t b n]) 0) (zlN (ks++[zdF ks i p r t b n]))
      rw[if_pos (show TY.chk (TY.sc EK.u32) (PV.sc EK.u32 (ks.getD i kn0).height)=true from rfl),hM,List.length_map,hl2,if_pos (show (ks.length+1)*160≤70368744177664∧ks.length+1≤70368744177664 from ⟨by omega,by omega⟩),if_pos F1.1,if_pos (show (0:Int)≤((zaM ks:Nat):Int)∧((zaM ks:Nat):Int) < ((ks.length+1:Nat):Int) by omega),zBW hbl2,if_pos (show TY.chk (TY.st [TY.arr EK.u8 32,TY.st [TY.arr EK.u8 32,TY.arr EK.u8 32,TY.sc EK.u32,TY.sc EK.u32,TY.sc EK.u32],TY.sc EK.i,TY.sc EK.u32,TY.arr EK.u64 4]) (knPV ((ks++[zdF ks i p r t b n]).getD (zaM ks) kn0))=true from rfl),zGl hbl2,if_pos (show TY.chk (TY.arr EK.u64 4) (PV.arr EK.u64 4 ((ks++[zdF ks i p r t b n]).getD (zaM ks) kn0).work)=true from rfl),zlK,hms,if_pos hf2,if_pos hf2,zea _ _ _ _ hbl,hW]
      have hbs:=zjD ok.ne (zdF ks i p r t b n)
      cases hsb:subB (ks.getD (zaM ks) kn0).work (zdF ks i p r t b n).work with
      | true =>
       rw[hsb,if_pos rfl]at hbs
       simp only[cond_true]
       unfold tvOf
       rw[hbs]
      | false =>
       rw[hsb,if_neg (by decide)]at hbs
       simp only[cond_false]
       unfold tvOf
       rw[hbs]
   ·rw[decide_eq_false h3,if_pos (show ofE b≠0 from h3)]
    simp only[Bool.not_false,cond_true]
    rw[if_pos hfl]
    rfl
end
end Go.Proofs.YtnolgfdjcipmmaaDoor.M
namespace Go.Proofs.YtnolgfdjcipmmaaDoor.M
open Go
noncomputable section
def tree_has (blocks:List PV) (ids:List (PV × PV)) (best:Int) (n:Int):Option (Bool × Int × List PV × (List (PV × PV))) :=
 bif eqb (decide ((0:Int)≤n)) true then(if(((PV.flats (List.map (fun(z5:PV × PV)=>(Prod.fst z5)) ids)) && (PV.flats (List.map (fun(z5:PV × PV)=>(Prod.snd z5)) ids)))=true)∧((PV.flats blocks)=true) then
   some ((bif true then(decide (n < (((List.length blocks):Nat):Int)))else false),best,blocks,ids)
  else none)
  else(if(((PV.flats (List.map (fun(z5:PV × PV)=>(Prod.fst z5)) ids)) && (PV.flats (List.map (fun(z5:PV × PV)=>(Prod.snd z5)) ids)))=true)∧((PV.flats blocks)=true) then
   some (false,best,blocks,ids)
  else none)
theorem zwA (blocks:List PV) (ids:List (PV × PV)) (best n:Int) (h:tvC (TV.mk blocks ids best)):tree_has blocks ids best n=some (zdN blocks n,best,blocks,ids):=by
 rw[tree_has.eq_1,if_pos h.flats,if_pos h.flats]
 unfold zdN
 cases decide (0≤n)<;>rfl
end
end Go.Proofs.YtnolgfdjcipmmaaDoor.M
namespace Go.Proofs.YtnolgfdjcipmmaaDoor.M
open Go
noncomputable section
def tree_Known (blocks:List PV) (ids:List (PV × PV)) (best:Int) (n:Int):Option (Vector UInt8 32 × Vector UInt8 32 × Vector UInt8 32 × UInt32 × UInt32 × UInt32 × Int × UInt32 × Vector UInt64 4 × Int × Int × List PV × (List (PV × PV))) :=
 if tvC (
     TV.mk blocks ids best) then
  bif !(
     zdN blocks n) then(if(((PV.flats (List.map (fun(z5:PV × PV)=>(Prod.fst z5)) ids)) && (PV.flats (List.map (fun(z5:PV × PV)=>(Prod.snd z5)) ids)))=true)∧((PV.flats blocks)=true) then
    some ((Vector.replicate 32 (0:UInt8)),(Vector.replicate 32 (0:UInt8)),(Vector.replicate 32 (0:UInt8)),(0:UInt32),(0:UInt32),(0:UInt32),(0:Int),(0:UInt32),(Vector.replicate 4 (0:UInt64)),(2:Int),best,blocks,ids)
   else none)
   else(
      if((0:Int)≤n)∧(n < (((List.length blocks):Nat):Int)) then
    if(
      TY.chk (TY.st  [(TY.arr EK.u8 32),(TY.st  [(TY.arr EK.u8 32),(TY.arr EK.u8 32),(TY.sc EK.u32),(TY.sc EK.u32),(TY.sc EK.u32)]),(TY.sc EK.i),(TY.sc EK.u32),(TY.arr EK.u64 4)]) (RC.get (RC.p 105 blocks)  [(PE.i (Int.toNat n))]))=true then
     if(((PV.flats (List.map (fun(z5:PV × PV)=>(Prod.fst z5)) ids)) && (PV.flats (List.map (fun(z5:PV × PV)=>(Prod.snd z5)) ids)))=true)∧((PV.flats blocks)=true) then
      some ((PV.vecv EK.u8 32 (PV.fld 0 (RC.get (RC.p 105 blocks)  [(PE.i (Int.toNat n))]))),(PV.vecv EK.u8 32 (PV.fld 0 (PV.fld 1 (RC.get (RC.p 105 blocks)  [(PE.i (Int.toNat n))])))),(PV.vecv EK.u8 32 (PV.fld 1 (PV.fld 1 (RC.get (RC.p 105 blocks)  [(PE.i (Int.toNat n))])))),(PV.scv EK.u32 (PV.fld 2 (PV.fld 1 (RC.get (RC.p 105 blocks)  [(PE.i (Int.toNat n))])))),(PV.scv EK.u32 (PV.fld 3 (PV.fld 1 (RC.get (RC.p 105 blocks)  [(PE.i (Int.toNat n))])))),(PV.scv EK.u32 (PV.fld 4 (PV.fld 1 (RC.get (RC.p 105 blocks)  [(PE.i (Int.toNat n))])))),(PV.scv EK.i (PV.fld 2 (RC.get (RC.p 105 blocks)  [(PE.i (Int.toNat n))]))),(PV.scv EK.u32 (PV.fld 3 (RC.get (RC.p 105 blocks)  [(PE.i (Int.toNat n))]))),(PV.vecv EK.u64 4 (PV.fld 4 (RC.get (RC.p 105 blocks)  [(PE.i (Int.toNat n))]))),(0:Int),best,blocks,ids)
     else none
    else none
   else none)
 else none
theorem ztc (blocks:List PV) (ids:List (PV × PV)) (best n:Int) (h:tvC (TV.mk blocks ids best)):tree_Known blocks ids best n=some ((zak blocks n).id,(zak blocks n).prev,(zak blocks n).root,(zak blocks n).time,(zak blocks n).bits,(zak blocks n).nonce,(zak blocks n).parent,(zak blocks n).height,(zak blocks n).work,bif zdN blocks n then 0 else 2,best,blocks,ids):=by
 have hfl:=h.flats
 rw[tree_Known.eq_1,if_pos h,if_pos hfl]
 obtain ⟨ks,ok,e⟩:=h.get
 cases e
 cases hh:zdN (ks.map knPV) n with
 | false =>
  rw[zpp,hh]
  rfl
 | true =>
  obtain ⟨h1,h2,h3⟩:=zlP hh
  rw[h1,if_pos (show (0:Int)≤n∧n < (((ks.map knPV).length:Nat):Int)from znZ.1 hh),zBW h2,if_pos (show TY.chk (TY.st [TY.arr EK.u8 32,TY.st [TY.arr EK.u8 32,TY.arr EK.u8 32,TY.sc EK.u32,TY.sc EK.u32,TY.sc EK.u32],TY.sc EK.i,TY.sc EK.u32,TY.arr EK.u64 4]) (knPV (ks.getD n.toNat kn0))=true from rfl),if_pos hfl]
  have e:knOf (knPV (ks.getD n.toNat kn0))=ks.getD n.toNat kn0:=zn3 _
  unfold knOf at e
  simp only[Bool.not_true,cond_false,cond_true]
  conv=>rhs; rw[←e]
end
end Go.Proofs.YtnolgfdjcipmmaaDoor.M
namespace Go.Proofs.YtnolgfdjcipmmaaDoor.M
open Go
noncomputable section
def tree_Len (blocks:List PV) (ids:List (PV × PV)) (best:Int):Option (Int × Int × List PV × (List (PV × PV))) :=
 if tvC (TV.mk blocks ids best) then
  if(((PV.flats (List.map (fun(z4:PV × PV)=>(Prod.fst z4)) ids)) && (PV.flats (List.map (fun(z4:PV × PV)=>(Prod.snd z4)) ids)))=true)∧((PV.flats blocks)=true) then
   some ((((List.length blocks):Nat):Int),best,blocks,ids)
  else none
 else none
theorem zxs (blocks:List PV) (ids:List (PV × PV)) (best:Int) (h:tvC (TV.mk blocks ids best)):tree_Len blocks ids best=some (((blocks.length:Nat):Int),best,blocks,ids):=by
 rw[tree_Len.eq_1,if_pos h,if_pos h.flats]
end
end Go.Proofs.YtnolgfdjcipmmaaDoor.M
namespace Go.Proofs.YtnolgfdjcipmmaaDoor.M
open Go
noncomputable section
def tree_Ctx (
       blocks:List PV) (ids:List (PV × PV)) (best:Int) (n:Int):Option (UInt32 × UInt32 × UInt32 × Vector UInt8 32 × Int × Int × List PV × (List (PV × PV))) :=
 if tvC (
     TV.mk blocks ids best) then
  bif !(
     zdN blocks n) then(if(((PV.flats (List.map (fun(z5:PV × PV)=>(Prod.fst z5)) ids)) && (PV.flats (List.map (fun(z5:PV × PV)=>(Prod.snd z5)) ids)))=true)∧((PV.flats blocks)=true) then
    some ((0:UInt32),(0:UInt32),(0:UInt32),(Vector.replicate 32 (0:UInt8)),(2:Int),best,blocks,ids)
   else none)
   else(
      if((0:Int)≤n)∧(n < (((List.length blocks):Nat):Int)) then
    if(
      TY.chk (TY.st  [(TY.arr EK.u8 32),(TY.st  [(TY.arr EK.u8 32),(TY.arr EK.u8 32),(TY.sc EK.u32),(TY.sc EK.u32),(TY.sc EK.u32)]),(TY.sc EK.i),(TY.sc EK.u32),(TY.arr EK.u64 4)]) (RC.get (RC.p 105 blocks)  [(PE.i (Int.toNat n))]))=true then
     bif decide ((((PV.scv EK.u32 (PV.fld 3 (RC.get (RC.p 105 blocks)  [(PE.i (Int.toNat n))])))+(1:UInt32)) % (8:UInt32))=(0:UInt32)) then(none)
      else(if(((PV.flats (List.map (fun(z5:PV × PV)=>(Prod.fst z5)) ids)) && (PV.flats (List.map (fun(z5:PV × PV)=>(Prod.snd z5)) ids)))=true)∧((PV.flats blocks)=true) then
       some (((PV.scv EK.u32 (PV.fld 3 (RC.get (RC.p 105 blocks)  [(PE.i (Int.toNat n))])))+(1:UInt32)),(PV.scv EK.u32 (PV.fld 2 (PV.fld 1 (RC.get (RC.p 105 blocks)  [(PE.i (Int.toNat n))])))),(PV.scv EK.u32 (PV.fld 3 (PV.fld 1 (RC.get (RC.p 105 blocks)  [(PE.i (Int.toNat n))])))),(PV.vecv EK.u8 32 (PV.fld 0 (RC.get (RC.p 105 blocks)  [(PE.i (Int.toNat n))]))),(0:Int),best,blocks,ids)
      else none)
    else none
   else none)
 else none
theorem zwG (blocks:List PV) (ids:List (PV × PV)) (best n:Int) (h:tvC (TV.mk blocks ids best)) (hx:zdN blocks n=true→((zak blocks n).height+1) % 8≠0) :
  tree_Ctx blocks ids best n=some (bif zdN blocks n then(zak blocks n).height+1 else 0,(zak blocks n).time,(zak blocks n).bits,(zak blocks n).id,bif zdN blocks n then 0 else 2,best,blocks,ids):=by
 have hfl:=h.flats
 rw[tree_Ctx.eq_1,if_pos h,if_pos hfl]
 obtain ⟨ks,ok,e⟩:=h.get
 cases e
 cases hh:zdN (ks.map knPV) n with
 | false =>
  rw[zpp,hh]
  rfl
 | true =>
  have hx:=hx hh
  obtain ⟨h1,h2,h3⟩:=zlP hh
  rw[h1]at hx ⊢
  have e:knOf (knPV (ks.getD n.toNat kn0))=ks.getD n.toNat kn0:=zn3 _
  have e3:PV.scv EK.u32 (PV.fld 3 (knPV (ks.getD n.toNat kn0)))=(ks.getD n.toNat kn0).height:=congrArg KN.height e
  have et:PV.scv EK.u32 (PV.fld 2 (PV.fld 1 (knPV (ks.getD n.toNat kn0))))=(ks.getD n.toNat kn0).time:=congrArg KN.time e
  have eb:PV.scv EK.u32 (PV.fld 3 (PV.fld 1 (knPV (ks.getD n.toNat kn0))))=(ks.getD n.toNat kn0).bits:=congrArg KN.bits e
  have ei:PV.vecv EK.u8 32 (PV.fld 0 (knPV (ks.getD n.toNat kn0)))=(ks.getD n.toNat kn0).id:=congrArg KN.id e
  rw[if_pos (show (0:Int)≤n∧n < (((ks.map knPV).length:Nat):Int)from znZ.1 hh),zBW h2,if_pos (show TY.chk (TY.st [TY.arr EK.u8 32,TY.st [TY.arr EK.u8 32,TY.arr EK.u8 32,TY.sc EK.u32,TY.sc EK.u32,TY.sc EK.u32],TY.sc EK.i,TY.sc EK.u32,TY.arr EK.u64 4]) (knPV (ks.getD n.toNat kn0))=true from rfl),if_pos hfl,e3,decide_eq_false hx,et,eb,ei]
  rfl
end
end Go.Proofs.YtnolgfdjcipmmaaDoor.M
namespace Go.Proofs.YtnolgfdjcipmmaaDoor.M
open Go
noncomputable section
set_option maxRecDepth 100000
set_option maxHeartbeats 0
noncomputable def zpd:Tbl:=[(19,[],zhI),(20,[],zkj),(21,[],zeZ)]
noncomputable def zvu:CfgW:=mkC Tryd.prog theG zpd 24 0 false
def zm1:Nat→List Nat:=fun i=>[]
noncomputable abbrev zpb:Code:=Tryd.f5.body.getD .skip
noncomputable abbrev zv0:List ResultVar:=Tryd.f5.results.toList
def znk:List Nat:=[]
def zgi (r:Int × List PV × (List (PV × PV))):CallOut:=⟨.p 60000 [],[(60000,.box (.st [.o 60001,.o 60002,.pv (.sc .i r.1)])),(60001,.row (.p 105 r.2.1) false),(60002,.map r.2.2)],true,[]⟩
theorem zE4  (Q:CallOut→Prop):zac zvu zm1 zv0 znk zpb [] [] Q =
 (let s0:= [(PV.st (List.set (List.set (List.set (List.set (List.reverse  [(PV.arr EK.u64 4 (Vector.replicate 4 (0:UInt64))),(PV.sc EK.u32 (0:UInt32)),(PV.sc EK.i (0:Int)),(PV.st (List.reverse  [(PV.sc EK.u32 (0:UInt32)),(PV.sc EK.u32 (0:UInt32)),(PV.sc EK.u32 (0:UInt32)),(PV.arr EK.u8 32 (Vector.replicate 32 (0:UInt8))),(PV.arr EK.u8 32 (Vector.replicate 32 (0:UInt8)))])),(PV.arr EK.u8 32 (Vector.replicate 32 (0:UInt8)))]) (0:Nat) (PV.arr EK.u8 32 (idV (Vector.replicate 32 (0:UInt8)) (Vector.replicate 32 (0:UInt8)) (0:UInt32) (545259519:UInt32) (0:UInt32)))) (1:Nat) (PV.st  [(PV.arr EK.u8 32 (Vector.replicate 32 (0:UInt8))),(PV.arr EK.u8 32 (Vector.replicate 32 (0:UInt8))),(PV.sc EK.u32 (0:UInt32)),(PV.sc EK.u32 (545259519:UInt32)),(PV.sc EK.u32 (0:UInt32))])) (2:Nat) (PV.sc EK.i (-(1:Int)))) (4:Nat) (PV.arr EK.u64 4 (zbN (545259519:UInt32)))))];let s1:=(PV.arr EK.u8 32 (idV (Vector.replicate 32 (0:UInt8)) (Vector.replicate 32 (0:UInt8)) (0:UInt32) (545259519:UInt32) (0:UInt32)));(((zic (zdc  s1 ) ([]:List (PV × PV)))=true)∧(((((PV.flats (List.map (fun(z1:PV × PV)=>(Prod.fst z1)) (mset ([]:List (PV × PV))  s1  (PV.sc EK.i (0:Int))))) && (PV.flats (List.map (fun(z1:PV × PV)=>(Prod.snd z1)) (mset ([]:List (PV × PV))  s1  (PV.sc EK.i (0:Int))))))=true)∧((PV.flats  s0 )=true))∧(Q (zgi ((0:Int), s0 ,(mset ([]:List (PV × PV))  s1  (PV.sc EK.i (0:Int))))))))):=by kernel_rfl
theorem zEs  {Q:CallOut→Prop} (h:Q (zgi (tree_New ))):zac zvu zm1 zv0 znk zpb [] [] Q :=
 Eq.mpr (zE4  Q) (have h:=Eq.mp (congrArg (fun r=>Q (zgi r)) (tree_New.eq_1 )) h; ⟨by decide +kernel,⟨by decide +kernel,h⟩⟩)
def ziC:Ans
 | [],[]=>some (none,zgi ((tvNew.best,tvNew.blocks,tvNew.ids)))
 | _,_=>none
theorem zzL:TblOK Tryd.prog theG zpd:=.cons ⟨by kernel_rfl,zwH⟩ (.cons ⟨by kernel_rfl,zv5⟩ (.cons ⟨by kernel_rfl,zl6⟩ (.nil)))
theorem zr7:FnOK Tryd.prog theG 5 (unW ziC):=by
 refine FnOK.ofC (T:=zpd) (nt:=24) (np:=0) (mv:=[]) (nf:=false) (hs:=znk) (fn:=Tryd.f5) (body:=zpb) zzL (by kernel_rfl) (by kernel_rfl) (by kernel_rfl) (by kernel_rfl) (c:=ziC) (lv:=zm1) ?_
 intro xs mem p out h hp
 unfold ziC at h
 split at h
 ·cases h
  exact zEs  (congrArg zgi (zwY))
 ·cases h
end
end Go.Proofs.YtnolgfdjcipmmaaDoor.M
namespace Go.Proofs.YtnolgfdjcipmmaaDoor.M
open Go
noncomputable section
set_option maxRecDepth 100000
set_option maxHeartbeats 0
noncomputable def zmG:Tbl:=[]
noncomputable def ztA:CfgW:=mkC Tryd.prog theG zmG 12 1 false
def zkD:Nat→List Nat:=fun i=>[]
noncomputable abbrev zmy:Code:=Tryd.f25.body.getD .skip
noncomputable abbrev zs7:List ResultVar:=Tryd.f25.results.toList
def zki:List Nat:=[0]
def zgF (r:Bool × Int × List PV × (List (PV × PV))):CallOut:=⟨.pv (.sc .b r.1),[(60000,.box (.st [.o 60001,.o 60002,.pv (.sc .i r.2.1)])),(60001,.row (.p 105 r.2.2.1) false),(60002,.map r.2.2.2)],true,[(0,.p 60000 [])]⟩
theorem zBC (blocks:List PV) (ids:List (PV × PV)) (best:Int) (Q:CallOut→Prop):zac ztA zkD zs7 zki zmy [.p 60000 []] [(60000,.box (.st [.o 60001,.o 60002,.pv (.sc .i best)])),(60001,.row (.p 105 blocks) false),(60002,.map ids)] Q =
  (((((PV.flats (List.map (fun(z4:PV × PV)=>(Prod.fst z4)) ids)) && (PV.flats (List.map (fun(z4:PV × PV)=>(Prod.snd z4)) ids)))=true)∧((PV.flats blocks)=true))∧(Q (zgF (false,best,blocks,ids)))):=by kernel_rfl
theorem zBF (blocks:List PV) (ids:List (PV × PV)) (best:Int) {r} {Q:CallOut→Prop} (h:tree_none blocks ids best=some r) (hQ:Q (zgF r)):zac ztA zkD zs7 zki zmy [.p 60000 []] [(60000,.box (.st [.o 60001,.o 60002,.pv (.sc .i best)])),(60001,.row (.p 105 blocks) false),(60002,.map ids)] Q :=
 Eq.mpr (zBC blocks ids best Q) (have h:=(tree_none.eq_1 blocks ids best).symm.trans h; zad h fun hc0 h=>zag (Q:=Q) (e:=zgF) h hQ)
def zdP:Ans
 | [.p 60000 []],[(60000,.box (.st [.o 60001,.o 60002,.pv (.sc .i best)])),(60001,.row (.p 105 blocks) false),(60002,.map ids)]=>some (some (tvC (TV.mk blocks ids best)),zgF ((false,best,blocks,ids)))
 | _,_=>none
theorem zwx:TblOK Tryd.prog theG zmG:=.nil
theorem zgh:FnOK Tryd.prog theG 25 (unW zdP):=by
 refine FnOK.ofC (T:=zmG) (nt:=12) (np:=1) (mv:=[]) (nf:=false) (hs:=zki) (fn:=Tryd.f25) (body:=zmy) zwx (by kernel_rfl) (by kernel_rfl) (by kernel_rfl) (by kernel_rfl) (c:=zdP) (lv:=zkD) ?_
 intro xs mem p out h hp
 unfold zdP at h
 split at h
 ·cases h
  exact zBF _ _ _ (zuz _ _ _ hp) rfl
 ·cases h
end
end Go.Proofs.YtnolgfdjcipmmaaDoor.M
namespace Go.Proofs.YtnolgfdjcipmmaaDoor.M
open Go
noncomputable section
set_option maxRecDepth 100000
set_option maxHeartbeats 0
noncomputable def zmF:Tbl:=[(25,[true],zdP)]
noncomputable def zsv:CfgW:=mkC Tryd.prog theG zmF 9 1 false
def zj9:Nat→List Nat:=fun i=>[]
noncomputable abbrev zmv:Code:=Tryd.f7.body.getD .skip
noncomputable abbrev zsE:List ResultVar:=Tryd.f7.results.toList
def zk6:List Nat:=[0]
def zgH (r:Int × Int × List PV × (List (PV × PV))):CallOut:=⟨.pv (.sc .i r.1),[(60000,.box (.st [.o 60001,.o 60002,.pv (.sc .i r.2.1)])),(60001,.row (.p 105 r.2.2.1) false),(60002,.map r.2.2.2)],true,[(0,.p 60000 [])]⟩
theorem zCt (blocks:List PV) (ids:List (PV × PV)) (best:Int) (Q:CallOut→Prop):zac zsv zj9 zsE zk6 zmv [.p 60000 []] [(60000,.box (.st [.o 60001,.o 60002,.pv (.sc .i best)])),(60001,.row (.p 105 blocks) false),(60002,.map ids)] Q =
  ((tvC (TV.mk blocks ids best))∧(((((PV.flats (List.map (fun(z4:PV × PV)=>(Prod.fst z4)) ids)) && (PV.flats (List.map (fun(z4:PV × PV)=>(Prod.snd z4)) ids)))=true)∧((PV.flats blocks)=true))∧(Q (zgH (best,best,blocks,ids))))):=by kernel_rfl
theorem zC1 (blocks:List PV) (ids:List (PV × PV)) (best:Int) {r} {Q:CallOut→Prop} (h:tree_Best blocks ids best=some r) (hQ:Q (zgH r)):zac zsv zj9 zsE zk6 zmv [.p 60000 []] [(60000,.box (.st [.o 60001,.o 60002,.pv (.sc .i best)])),(60001,.row (.p 105 blocks) false),(60002,.map ids)] Q :=
 Eq.mpr (zCt blocks ids best Q) (have h:=(tree_Best.eq_1 blocks ids best).symm.trans h; zad h fun hc0 h=>zad h fun hc1 h=>zag (Q:=Q) (e:=zgH) h hQ)
def zhb:Ans
 | [.p 60000 []],[(60000,.box (.st [.o 60001,.o 60002,.pv (.sc .i best)])),(60001,.row (.p 105 blocks) false),(60002,.map ids)]=>some (some (tvC (TV.mk blocks ids best)),zgH ((best,best,blocks,ids)))
 | _,_=>none
theorem zxB:TblOK Tryd.prog theG zmF:=.cons ⟨by kernel_rfl,zgh⟩ (.nil)
theorem zqf:FnOK Tryd.prog theG 7 (unW zhb):=by
 refine FnOK.ofC (T:=zmF) (nt:=9) (np:=1) (mv:=[]) (nf:=false) (hs:=zk6) (fn:=Tryd.f7) (body:=zmv) zxB (by kernel_rfl) (by kernel_rfl) (by kernel_rfl) (by kernel_rfl) (c:=zhb) (lv:=zj9) ?_
 intro xs mem p out h hp
 unfold zhb at h
 split at h
 ·cases h
  exact zC1 _ _ _ (zue _ _ _ hp) rfl
 ·cases h
end
end Go.Proofs.YtnolgfdjcipmmaaDoor.M
namespace Go.Proofs.YtnolgfdjcipmmaaDoor.M
open Go
noncomputable section
set_option maxRecDepth 100000
set_option maxHeartbeats 0
noncomputable def zpA:Tbl:=[(25,[true],zdP),(20,[],zkj),(21,[],zeZ),(26,[],zk9),(28,[],ziQ),(27,[],zhe),(29,[],ziy)]
noncomputable def zvM:CfgW:=mkC Tryd.prog theG zpA 130 1 false noIt [1010306000000]
def zmZ:Nat→List Nat:=fun i=>[]
noncomputable abbrev zpJ:Code:=Tryd.f8.body.getD .skip
noncomputable abbrev zvI:List ResultVar:=Tryd.f8.results.toList
def zmV:List Nat:=[0]
def zaU (r:Int × Int × Int × List PV × (List (PV × PV))):CallOut:=⟨.tup [.pv (.sc .i r.1),.pv (.sc .i r.2.1)],[(60000,.box (.st [.o 60001,.o 60002,.pv (.sc .i r.2.2.1)])),(60001,.row (.p 105 r.2.2.2.1) false),(60002,.map r.2.2.2.2)],true,[(0,.p 60000 [])]⟩
theorem zEQ (blocks:List PV) (ids:List (PV × PV)) (best:Int) (h_1_Prev:Vector UInt8 32) (h_1_Root:Vector UInt8 32) (h_1_Time:UInt32) (h_1_Bits:UInt32) (h_1_Nonce:UInt32) (Q:CallOut→Prop):zac zvM zmZ zvI zmV zpJ [.p 60000 [],.pv (.st [.arr .u8 32 h_1_Prev,.arr .u8 32 h_1_Root,.sc .u32 h_1_Time,.sc .u32 h_1_Bits,.sc .u32 h_1_Nonce])] [(60000,.box (.st [.o 60001,.o 60002,.pv (.sc .i best)])),(60001,.row (.p 105 blocks) false),(60002,.map ids)] Q =
 (let s0:=(List.set (List.set (List.set (List.set (List.reverse  [(PV.arr EK.u64 4 (Vector.replicate 4 (0:UInt64))),(PV.sc EK.u32 (0:UInt32)),(PV.sc EK.i (0:Int)),(PV.st (List.reverse  [(PV.sc EK.u32 (0:UInt32)),(PV.sc EK.u32 (0:UInt32)),(PV.sc EK.u32 (0:UInt32)),(PV.arr EK.u8 32 (Vector.replicate 32 (0:UInt8))),(PV.arr EK.u8 32 (Vector.replicate 32 (0:UInt8)))])),(PV.arr EK.u8 32 (Vector.replicate 32 (0:UInt8)))]) (0:Nat) (PV.arr EK.u8 32 (idV h_1_Prev h_1_Root h_1_Time h_1_Bits h_1_Nonce))) (1:Nat) (PV.st  [(PV.arr EK.u8 32 h_1_Prev),(PV.arr EK.u8 32 h_1_Root),(PV.sc EK.u32 h_1_Time),(PV.sc EK.u32 h_1_Bits),(PV.sc EK.u32 h_1_Nonce)])) (2:Nat) (TY.eta (TY.sc EK.i) (Option.getD (mget ids (PV.arr EK.u8 32 h_1_Prev)) (PV.sc EK.i (0:Int))))) (3:Nat) (PV.sc EK.u32 ((PV.scv EK.u32 (RC.get (RC.p 105 blocks) ( [(PE.i (Int.toNat (PV.scv EK.i (Option.getD (mget ids (PV.arr EK.u8 32 h_1_Prev)) (PV.sc EK.i (0:Int))))))]++ [(PE.f 3)])))+(1:UInt32))));let s1:=(blocks++ [(PV.st (List.set  s0  (4:Nat) (PV.arr EK.u64 4 (addV (PV.vecv EK.u64 4 (RC.get (RC.p 105 blocks) ( [(PE.i (Int.toNat (PV.scv EK.i (Option.getD (mget ids (PV.arr EK.u8 32 h_1_Prev)) (PV.sc EK.i (0:Int))))))]++ [(PE.f 4)]))) (zbN h_1_Bits)))))]);let s2:=(mset ids (PV.arr EK.u8 32 (idV h_1_Prev h_1_Root h_1_Time h_1_Bits h_1_Nonce)) (PV.sc EK.i (((List.length blocks):Nat):Int)));let s3:=(blocks++ [(PV.st (List.set  s0  (4:Nat) (PV.arr EK.u64 4 (subV (Vector.replicate 4 (0:UInt64)) (uW (1:Nat))))))]);let s4:=(PV.scv EK.i (Option.getD (mget ids (PV.arr EK.u8 32 h_1_Prev)) (PV.sc EK.i (0:Int))));let s5:=(TY.st  [(TY.arr EK.u8 32),(TY.st  [(TY.arr EK.u8 32),(TY.arr EK.u8 32),(TY.sc EK.u32),(TY.sc EK.u32),(TY.sc EK.u32)]),(TY.sc EK.i),(TY.sc EK.u32),(TY.arr EK.u64 4)]);let s6:=((((PV.flats (List.map (fun(z9:PV × PV)=>(Prod.fst z9)) ids)) && (PV.flats (List.map (fun(z9:PV × PV)=>(Prod.snd z9)) ids)))=true)∧((PV.flats blocks)=true));let s7:=(((PV.flats (List.map (fun(z9:PV × PV)=>(Prod.fst z9))  s2 )) && (PV.flats (List.map (fun(z9:PV × PV)=>(Prod.snd z9))  s2 )))=true);let s8:=(PV.arr EK.u8 32 (idV h_1_Prev h_1_Root h_1_Time h_1_Bits h_1_Nonce));let s9:=(RC.get (RC.p 105 blocks) ( [(PE.i (Int.toNat  s4 ))]++ [(PE.f 4)]));let s10:=( [(PE.i (Int.toNat best))]++ [(PE.f 4)]);let s11:=((TY.chk  s5  (RC.get (RC.p 105 blocks)  [(PE.i (Int.toNat  s4 ))]))=true);let s12:=((TY.chk (TY.sc EK.u32) (RC.get (RC.p 105 blocks) ( [(PE.i (Int.toNat  s4 ))]++ [(PE.f 3)])))=true);let s13:=((List.all ids (fun(z9:PV × PV)=>((PV.isAgg (Prod.snd z9)) == (PV.isAgg (PV.sc EK.i (0:Int))))))=true);((tvC (TV.mk blocks ids best))∧((((zic (zdc  s8 ) ids)=true)∧( s13 ∧((TY.chk (TY.sc EK.i) (Option.getD (mget ids  s8 ) (PV.sc EK.i (0:Int))))=true)))∧(zaf (Option.isSome (mget ids  s8 )) ( s6 ∧(Q (zaU ((0:Int),(7:Int),best,blocks,ids)))) ((((zic (zdc (PV.arr EK.u8 32 h_1_Prev)) ids)=true)∧( s13 ∧((TY.chk (TY.sc EK.i) (Option.getD (mget ids (PV.arr EK.u8 32 h_1_Prev)) (PV.sc EK.i (0:Int))))=true)))∧(zaf (!(Option.isSome (mget ids (PV.arr EK.u8 32 h_1_Prev)))) ( s6 ∧(Q (zaU ((0:Int),(6:Int),best,blocks,ids)))) (zaf (!(decide ((ofE h_1_Bits)=(0:Int)))) ( s6 ∧(Q (zaU ((0:Int),(5:Int),best,blocks,ids)))) (zaf (decide ((200:Int)≤(((List.length blocks):Nat):Int))) ( s6 ∧(Q (zaU ((0:Int),(3:Int),best,blocks,ids)))) ((((0:Int)≤ s4 )∧( s4  < (((List.length blocks):Nat):Int)))∧( s11 ∧(((TY.chk (TY.arr EK.u64 4)  s9 )=true)∧(zaf (addB (PV.vecv EK.u64 4  s9 ) (zbN h_1_Bits)) ((((0:Int)≤ s4 )∧( s4  < (((List.length blocks):Nat):Int)))∧( s11 ∧( s12 ∧(((((List.length  s3 )*(160:Nat))≤(70368744177664:Nat))∧((List.length  s3 )≤(70368744177664:Nat)))∧(((zic (zdc  s8 ) ids)=true)∧((((0:Int)≤best)∧(best < (((List.length  s3 ):Nat):Int)))∧(((TY.chk  s5  (RC.get (RC.p 105  s3 )  [(PE.i (Int.toNat best))]))=true)∧(((TY.chk (TY.arr EK.u64 4) (RC.get (RC.p 105  s3 )  s10 ))=true)∧(zaf (subB (PV.vecv EK.u64 4 (RC.get (RC.p 105  s3 )  s10 )) (subV (Vector.replicate 4 (0:UInt64)) (uW (1:Nat)))) (( s7 ∧((PV.flats  s3 )=true))∧(Q (zaU ((((List.length blocks):Nat):Int),(0:Int),(((List.length blocks):Nat):Int), s3 , s2 )))) (( s7 ∧((PV.flats  s3 )=true))∧(Q (zaU ((((List.length blocks):Nat):Int),(0:Int),best, s3 , s2 ))))))))))))) ((((0:Int)≤ s4 )∧( s4  < (((List.length blocks):Nat):Int)))∧( s11 ∧( s12 ∧(((((List.length  s1 )*(160:Nat))≤(70368744177664:Nat))∧((List.length  s1 )≤(70368744177664:Nat)))∧(((zic (zdc  s8 ) ids)=true)∧((((0:Int)≤best)∧(best < (((List.length  s1 ):Nat):Int)))∧(((TY.chk  s5  (RC.get (RC.p 105  s1 )  [(PE.i (Int.toNat best))]))=true)∧(((TY.chk (TY.arr EK.u64 4) (RC.get (RC.p 105  s1 )  s10 ))=true)∧(zaf (subB (PV.vecv EK.u64 4 (RC.get (RC.p 105  s1 )  s10 )) (addV (PV.vecv EK.u64 4  s9 ) (zbN h_1_Bits))) (( s7 ∧((PV.flats  s1 )=true))∧(Q (zaU ((((List.length blocks):Nat):Int),(0:Int),(((List.length blocks):Nat):Int), s1 , s2 )))) (( s7 ∧((PV.flats  s1 )=true))∧(Q (zaU ((((List.length blocks):Nat):Int),(0:Int),best, s1 , s2 ))))))))))))))))))))))))):=by kernel_rfl
theorem zED (blocks:List PV) (ids:List (PV × PV)) (best:Int) (h_1_Prev:Vector UInt8 32) (h_1_Root:Vector UInt8 32) (h_1_Time:UInt32) (h_1_Bits:UInt32) (h_1_Nonce:UInt32) {r} {Q:CallOut→Prop} (h:tree_Add blocks ids best h_1_Prev h_1_Root h_1_Time h_1_Bits h_1_Nonce=some r) (hQ:Q (zaU r)):zac zvM zmZ zvI zmV zpJ [.p 60000 [],.pv (.st [.arr .u8 32 h_1_Prev,.arr .u8 32 h_1_Root,.sc .u32 h_1_Time,.sc .u32 h_1_Bits,.sc .u32 h_1_Nonce])] [(60000,.box (.st [.o 60001,.o 60002,.pv (.sc .i best)])),(60001,.row (.p 105 blocks) false),(60002,.map ids)] Q :=
 Eq.mpr (zEQ blocks ids best h_1_Prev h_1_Root h_1_Time h_1_Bits h_1_Nonce Q) (have h:=(tree_Add.eq_1 blocks ids best h_1_Prev h_1_Root h_1_Time h_1_Bits h_1_Nonce).symm.trans h; zad h fun hc0 h=>zad h fun hc1 h=>zab h (fun h=>zad h fun hc2 h=>zag (Q:=Q) (e:=zaU) h hQ) (fun h=>zad h fun hc2 h=>zab h (fun h=>zad h fun hc3 h=>zag (Q:=Q) (e:=zaU) h hQ) (fun h=>zab h (fun h=>zad h fun hc3 h=>zag (Q:=Q) (e:=zaU) h hQ) (fun h=>zab h (fun h=>zad h fun hc3 h=>zag (Q:=Q) (e:=zaU) h hQ) (fun h=>zad h fun hc3 h=>zad h fun hc4 h=>zad h fun hc5 h=>zab h (fun h=>⟨hc3,⟨hc4,zad h fun hc6 h=>zad h fun hc7 h=>zad h fun hc8 h=>zad h fun hc9 h=>zad h fun hc10 h=>zad h fun hc11 h=>zab h (fun h=>zad h fun hc12 h=>zag (Q:=Q) (e:=zaU) h hQ) (fun h=>zad h fun hc12 h=>zag (Q:=Q) (e:=zaU) h hQ)⟩⟩) (fun h=>⟨hc3,⟨hc4,zad h fun hc6 h=>zad h fun hc7 h=>zad h fun hc8 h=>zad h fun hc9 h=>zad h fun hc10 h=>zad h fun hc11 h=>zab h (fun h=>zad h fun hc12 h=>zag (Q:=Q) (e:=zaU) h hQ) (fun h=>zad h fun hc12 h=>zag (Q:=Q) (e:=zaU) h hQ)⟩⟩))))))
def ziq:Ans
 | [.p 60000 [],.pv (.st [.arr .u8 32 h_1_Prev,.arr .u8 32 h_1_Root,.sc .u32 h_1_Time,.sc .u32 h_1_Bits,.sc .u32 h_1_Nonce])],[(60000,.box (.st [.o 60001,.o 60002,.pv (.sc .i best)])),(60001,.row (.p 105 blocks) false),(60002,.map ids)]=>some (some (tvC (TV.mk blocks ids best)),zaU (((zaE (TV.mk blocks ids best) h_1_Prev h_1_Root h_1_Time h_1_Bits h_1_Nonce).1,(zaE (TV.mk blocks ids best) h_1_Prev h_1_Root h_1_Time h_1_Bits h_1_Nonce).2.1,(zaE (TV.mk blocks ids best) h_1_Prev h_1_Root h_1_Time h_1_Bits h_1_Nonce).2.2.best,(zaE (TV.mk blocks ids best) h_1_Prev h_1_Root h_1_Time h_1_Bits h_1_Nonce).2.2.blocks,(zaE (TV.mk blocks ids best) h_1_Prev h_1_Root h_1_Time h_1_Bits h_1_Nonce).2.2.ids)))
 | _,_=>none
theorem zAa:TblOK Tryd.prog theG zpA:=.cons ⟨by kernel_rfl,zgh⟩ (.cons ⟨by kernel_rfl,zv5⟩ (.cons ⟨by kernel_rfl,zl6⟩ (.cons ⟨by kernel_rfl,zvo⟩ (.cons ⟨by kernel_rfl,zoC⟩ (.cons ⟨by kernel_rfl,zlq⟩ (.cons ⟨by kernel_rfl,zr5⟩ (.nil)))))))
theorem zsL:FnOK Tryd.prog theG 8 (unW ziq):=by
 refine FnOK.ofC (T:=zpA) (nt:=130) (np:=1) (mv:=[1010306000000]) (nf:=false) (hs:=zmV) (fn:=Tryd.f8) (body:=zpJ) zAa (by kernel_rfl) (by kernel_rfl) (by kernel_rfl) (by kernel_rfl) (c:=ziq) (lv:=zmZ) ?_
 intro xs mem p out h hp
 unfold ziq at h
 split at h
 ·cases h
  exact zED _ _ _ _ _ _ _ _ (zxd _ _ _ _ _ _ _ _ hp) rfl
 ·cases h
end
end Go.Proofs.YtnolgfdjcipmmaaDoor.M
namespace Go.Proofs.YtnolgfdjcipmmaaDoor.M
open Go
noncomputable section
set_option maxRecDepth 100000
set_option maxHeartbeats 0
noncomputable def zo6:Tbl:=[]
noncomputable def zvF:CfgW:=mkC Tryd.prog theG zo6 16 1 false
def zmY:Nat→List Nat:=fun i=>[]
noncomputable abbrev zps:Code:=Tryd.f34.body.getD .skip
noncomputable abbrev zuX:List ResultVar:=Tryd.f34.results.toList
def zmC:List Nat:=[0]
def zeI (r:Bool × Int × List PV × (List (PV × PV))):CallOut:=⟨.pv (.sc .b r.1),[(60000,.box (.st [.o 60001,.o 60002,.pv (.sc .i r.2.1)])),(60001,.row (.p 105 r.2.2.1) false),(60002,.map r.2.2.2)],true,[(0,.p 60000 [])]⟩
theorem zD0 (blocks:List PV) (ids:List (PV × PV)) (best:Int) (n:Int) (Q:CallOut→Prop):zac zvF zmY zuX zmC zps [.p 60000 [],.pv (.sc .i n)] [(60000,.box (.st [.o 60001,.o 60002,.pv (.sc .i best)])),(60001,.row (.p 105 blocks) false),(60002,.map ids)] Q =
  (zaf (eqb (decide ((0:Int)≤n)) true) (((((PV.flats (List.map (fun(z5:PV × PV)=>(Prod.fst z5)) ids)) && (PV.flats (List.map (fun(z5:PV × PV)=>(Prod.snd z5)) ids)))=true)∧((PV.flats blocks)=true))∧(Q (zeI ((bif true then(decide (n < (((List.length blocks):Nat):Int)))else false),best,blocks,ids)))) (((((PV.flats (List.map (fun(z5:PV × PV)=>(Prod.fst z5)) ids)) && (PV.flats (List.map (fun(z5:PV × PV)=>(Prod.snd z5)) ids)))=true)∧((PV.flats blocks)=true))∧(Q (zeI (false,best,blocks,ids))))):=by kernel_rfl
theorem zEY (blocks:List PV) (ids:List (PV × PV)) (best:Int) (n:Int) {r} {Q:CallOut→Prop} (h:tree_has blocks ids best n=some r) (hQ:Q (zeI r)):zac zvF zmY zuX zmC zps [.p 60000 [],.pv (.sc .i n)] [(60000,.box (.st [.o 60001,.o 60002,.pv (.sc .i best)])),(60001,.row (.p 105 blocks) false),(60002,.map ids)] Q :=
 Eq.mpr (zD0 blocks ids best n Q) (have h:=(tree_has.eq_1 blocks ids best n).symm.trans h; zab h (fun h=>zad h fun hc0 h=>zag (Q:=Q) (e:=zeI) h hQ) (fun h=>zad h fun hc0 h=>zag (Q:=Q) (e:=zeI) h hQ))
def zio:Ans
 | [.p 60000 [],.pv (.sc .i n)],[(60000,.box (.st [.o 60001,.o 60002,.pv (.sc .i best)])),(60001,.row (.p 105 blocks) false),(60002,.map ids)]=>some (some (tvC (TV.mk blocks ids best)),zeI ((zdN blocks n,best,blocks,ids)))
 | _,_=>none
theorem zz7:TblOK Tryd.prog theG zo6:=.nil
theorem ztK:FnOK Tryd.prog theG 34 (unW zio):=by
 refine FnOK.ofC (T:=zo6) (nt:=16) (np:=1) (mv:=[]) (nf:=false) (hs:=zmC) (fn:=Tryd.f34) (body:=zps) zz7 (by kernel_rfl) (by kernel_rfl) (by kernel_rfl) (by kernel_rfl) (c:=zio) (lv:=zmY) ?_
 intro xs mem p out h hp
 unfold zio at h
 split at h
 ·cases h
  exact zEY _ _ _ _ (zwA _ _ _ _ hp) rfl
 ·cases h
end
end Go.Proofs.YtnolgfdjcipmmaaDoor.M
namespace Go.Proofs.YtnolgfdjcipmmaaDoor.M
open Go
noncomputable section
set_option maxRecDepth 100000
set_option maxHeartbeats 0
noncomputable def zkr:Tbl:=[(25,[true],zdP),(34,[true,false],zio)]
noncomputable def zqF:CfgW:=mkC Tryd.prog theG zkr 23 1 false
def zjG:Nat→List Nat:=fun i=>[]
noncomputable abbrev zlk:Code:=Tryd.f10.body.getD .skip
noncomputable abbrev zqd:List ResultVar:=Tryd.f10.results.toList
def zjy:List Nat:=[0]
def zdy (r:Vector UInt8 32 × Vector UInt8 32 × Vector UInt8 32 × UInt32 × UInt32 × UInt32 × Int × UInt32 × Vector UInt64 4 × Int × Int × List PV × (List (PV × PV))):CallOut:=⟨.tup [.pv (.st [.arr .u8 32 r.1,.st [.arr .u8 32 r.2.1,.arr .u8 32 r.2.2.1,.sc .u32 r.2.2.2.1,.sc .u32 r.2.2.2.2.1,.sc .u32 r.2.2.2.2.2.1],.sc .i r.2.2.2.2.2.2.1,.sc .u32 r.2.2.2.2.2.2.2.1,.arr .u64 4 r.2.2.2.2.2.2.2.2.1]),.pv (.sc .i r.2.2.2.2.2.2.2.2.2.1)],[(60000,.box (.st [.o 60001,.o 60002,.pv (.sc .i r.2.2.2.2.2.2.2.2.2.2.1)])),(60001,.row (.p 105 r.2.2.2.2.2.2.2.2.2.2.2.1) false),(60002,.map r.2.2.2.2.2.2.2.2.2.2.2.2)],true,[(0,.p 60000 [])]⟩
theorem zAD (blocks:List PV) (ids:List (PV × PV)) (best:Int) (n:Int) (Q:CallOut→Prop):zac zqF zjG zqd zjy zlk [.p 60000 [],.pv (.sc .i n)] [(60000,.box (.st [.o 60001,.o 60002,.pv (.sc .i best)])),(60001,.row (.p 105 blocks) false),(60002,.map ids)] Q =
 (let s0:=(RC.get (RC.p 105 blocks)  [(PE.i (Int.toNat n))]);let s1:=((((PV.flats (List.map (fun(z5:PV × PV)=>(Prod.fst z5)) ids)) && (PV.flats (List.map (fun(z5:PV × PV)=>(Prod.snd z5)) ids)))=true)∧((PV.flats blocks)=true));((tvC (TV.mk blocks ids best))∧((tvC (TV.mk blocks ids best))∧(zaf (!(zdN blocks n)) ( s1 ∧(Q (zdy ((Vector.replicate 32 (0:UInt8)),(Vector.replicate 32 (0:UInt8)),(Vector.replicate 32 (0:UInt8)),(0:UInt32),(0:UInt32),(0:UInt32),(0:Int),(0:UInt32),(Vector.replicate 4 (0:UInt64)),(2:Int),best,blocks,ids)))) ((((0:Int)≤n)∧(n < (((List.length blocks):Nat):Int)))∧(((TY.chk (TY.st  [(TY.arr EK.u8 32),(TY.st  [(TY.arr EK.u8 32),(TY.arr EK.u8 32),(TY.sc EK.u32),(TY.sc EK.u32),(TY.sc EK.u32)]),(TY.sc EK.i),(TY.sc EK.u32),(TY.arr EK.u64 4)])  s0 )=true)∧( s1 ∧(Q (zdy ((PV.vecv EK.u8 32 (PV.fld 0  s0 )),(PV.vecv EK.u8 32 (PV.fld 0 (PV.fld 1  s0 ))),(PV.vecv EK.u8 32 (PV.fld 1 (PV.fld 1  s0 ))),(PV.scv EK.u32 (PV.fld 2 (PV.fld 1  s0 ))),(PV.scv EK.u32 (PV.fld 3 (PV.fld 1  s0 ))),(PV.scv EK.u32 (PV.fld 4 (PV.fld 1  s0 ))),(PV.scv EK.i (PV.fld 2  s0 )),(PV.scv EK.u32 (PV.fld 3  s0 )),(PV.vecv EK.u64 4 (PV.fld 4  s0 )),(0:Int),best,blocks,ids)))))))))):=by kernel_rfl
theorem zAC (blocks:List PV) (ids:List (PV × PV)) (best:Int) (n:Int) {r} {Q:CallOut→Prop} (h:tree_Known blocks ids best n=some r) (hQ:Q (zdy r)):zac zqF zjG zqd zjy zlk [.p 60000 [],.pv (.sc .i n)] [(60000,.box (.st [.o 60001,.o 60002,.pv (.sc .i best)])),(60001,.row (.p 105 blocks) false),(60002,.map ids)] Q :=
 Eq.mpr (zAD blocks ids best n Q) (have h:=(tree_Known.eq_1 blocks ids best n).symm.trans h; zad h fun hc0 h=>⟨hc0,zab h (fun h=>zad h fun hc1 h=>zag (Q:=Q) (e:=zdy) h hQ) (fun h=>zad h fun hc1 h=>zad h fun hc2 h=>zad h fun hc3 h=>zag (Q:=Q) (e:=zdy) h hQ)⟩)
def zhH:Ans
 | [.p 60000 [],.pv (.sc .i n)],[(60000,.box (.st [.o 60001,.o 60002,.pv (.sc .i best)])),(60001,.row (.p 105 blocks) false),(60002,.map ids)]=>some (some (tvC (TV.mk blocks ids best)),zdy (((zak blocks n).id,(zak blocks n).prev,(zak blocks n).root,(zak blocks n).time,(zak blocks n).bits,(zak blocks n).nonce,(zak blocks n).parent,(zak blocks n).height,(zak blocks n).work,bif zdN blocks n then 0 else 2,best,blocks,ids)))
 | _,_=>none
theorem ztY:TblOK Tryd.prog theG zkr:=.cons ⟨by kernel_rfl,zgh⟩ (.cons ⟨by kernel_rfl,ztK⟩ (.nil))
theorem zxt:FnOK Tryd.prog theG 10 (unW zhH):=by
 refine FnOK.ofC (T:=zkr) (nt:=23) (np:=1) (mv:=[]) (nf:=false) (hs:=zjy) (fn:=Tryd.f10) (body:=zlk) ztY (by kernel_rfl) (by kernel_rfl) (by kernel_rfl) (by kernel_rfl) (c:=zhH) (lv:=zjG) ?_
 intro xs mem p out h hp
 unfold zhH at h
 split at h
 ·cases h
  exact zAC _ _ _ _ (ztc _ _ _ _ hp) rfl
 ·cases h
end
end Go.Proofs.YtnolgfdjcipmmaaDoor.M
namespace Go.Proofs.YtnolgfdjcipmmaaDoor.M
open Go
noncomputable section
set_option maxRecDepth 100000
set_option maxHeartbeats 0
noncomputable def zoW:Tbl:=[(25,[true],zdP)]
noncomputable def zva:CfgW:=mkC Tryd.prog theG zoW 10 1 false
def zny:Nat→List Nat:=fun i=>[]
noncomputable abbrev zpE:Code:=Tryd.f11.body.getD .skip
noncomputable abbrev zvz:List ResultVar:=Tryd.f11.results.toList
def znu:List Nat:=[0]
def zhv (r:Int × Int × List PV × (List (PV × PV))):CallOut:=⟨.pv (.sc .i r.1),[(60000,.box (.st [.o 60001,.o 60002,.pv (.sc .i r.2.1)])),(60001,.row (.p 105 r.2.2.1) false),(60002,.map r.2.2.2)],true,[(0,.p 60000 [])]⟩
theorem zEH (blocks:List PV) (ids:List (PV × PV)) (best:Int) (Q:CallOut→Prop):zac zva zny zvz znu zpE [.p 60000 []] [(60000,.box (.st [.o 60001,.o 60002,.pv (.sc .i best)])),(60001,.row (.p 105 blocks) false),(60002,.map ids)] Q =
  ((tvC (TV.mk blocks ids best))∧(((((PV.flats (List.map (fun(z4:PV × PV)=>(Prod.fst z4)) ids)) && (PV.flats (List.map (fun(z4:PV × PV)=>(Prod.snd z4)) ids)))=true)∧((PV.flats blocks)=true))∧(Q (zhv ((((List.length blocks):Nat):Int),best,blocks,ids))))):=by kernel_rfl
theorem zFb (blocks:List PV) (ids:List (PV × PV)) (best:Int) {r} {Q:CallOut→Prop} (h:tree_Len blocks ids best=some r) (hQ:Q (zhv r)):zac zva zny zvz znu zpE [.p 60000 []] [(60000,.box (.st [.o 60001,.o 60002,.pv (.sc .i best)])),(60001,.row (.p 105 blocks) false),(60002,.map ids)] Q :=
 Eq.mpr (zEH blocks ids best Q) (have h:=(tree_Len.eq_1 blocks ids best).symm.trans h; zad h fun hc0 h=>zad h fun hc1 h=>zag (Q:=Q) (e:=zhv) h hQ)
def zif:Ans
 | [.p 60000 []],[(60000,.box (.st [.o 60001,.o 60002,.pv (.sc .i best)])),(60001,.row (.p 105 blocks) false),(60002,.map ids)]=>some (some (tvC (TV.mk blocks ids best)),zhv ((((blocks.length:Nat):Int),best,blocks,ids)))
 | _,_=>none
theorem zA1:TblOK Tryd.prog theG zoW:=.cons ⟨by kernel_rfl,zgh⟩ (.nil)
theorem zr1:FnOK Tryd.prog theG 11 (unW zif):=by
 refine FnOK.ofC (T:=zoW) (nt:=10) (np:=1) (mv:=[]) (nf:=false) (hs:=znu) (fn:=Tryd.f11) (body:=zpE) zA1 (by kernel_rfl) (by kernel_rfl) (by kernel_rfl) (by kernel_rfl) (c:=zif) (lv:=zny) ?_
 intro xs mem p out h hp
 unfold zif at h
 split at h
 ·cases h
  exact zFb _ _ _ (zxs _ _ _ hp) rfl
 ·cases h
end
end Go.Proofs.YtnolgfdjcipmmaaDoor.M
namespace Go.Proofs.YtnolgfdjcipmmaaDoor.M
open Go
noncomputable section
set_option maxRecDepth 100000
set_option maxHeartbeats 0
noncomputable def zo9:Tbl:=[(25,[true],zdP),(34,[true,false],zio),(37,[],zgt)]
noncomputable def zvO:CfgW:=mkC Tryd.prog theG zo9 87 1 false
def zmK:Nat→List Nat:=fun i=>bif Nat.beq i 3000001 then [9,0,2,4,6,7,8]else []
noncomputable abbrev zoR:Code:=Tryd.f15.body.getD .skip
noncomputable abbrev zvZ:List ResultVar:=Tryd.f15.results.toList
def zng:List Nat:=[0]
def zeC (r:UInt32 × UInt32 × UInt32 × Vector UInt8 32 × Int × Int × List PV × (List (PV × PV))):CallOut:=⟨.tup [.pv (.st [.sc .u32 r.1,.sc .u32 r.2.1,.sc .u32 r.2.2.1,.arr .u8 32 r.2.2.2.1]),.pv (.sc .i r.2.2.2.2.1)],[(60000,.box (.st [.o 60001,.o 60002,.pv (.sc .i r.2.2.2.2.2.1)])),(60001,.row (.p 105 r.2.2.2.2.2.2.1) false),(60002,.map r.2.2.2.2.2.2.2)],true,[(0,.p 60000 [])]⟩
theorem zEe (blocks:List PV) (ids:List (PV × PV)) (best:Int) (n:Int) (Q:CallOut→Prop):zac zvO zmK zvZ zng zoR [.p 60000 [],.pv (.sc .i n)] [(60000,.box (.st [.o 60001,.o 60002,.pv (.sc .i best)])),(60001,.row (.p 105 blocks) false),(60002,.map ids)] Q =
 (let s0:=(RC.get (RC.p 105 blocks)  [(PE.i (Int.toNat n))]);let s1:=((((PV.flats (List.map (fun(z5:PV × PV)=>(Prod.fst z5)) ids)) && (PV.flats (List.map (fun(z5:PV × PV)=>(Prod.snd z5)) ids)))=true)∧((PV.flats blocks)=true));((tvC (TV.mk blocks ids best))∧((tvC (TV.mk blocks ids best))∧(zaf (!(zdN blocks n)) ( s1 ∧(Q (zeC ((0:UInt32),(0:UInt32),(0:UInt32),(Vector.replicate 32 (0:UInt8)),(2:Int),best,blocks,ids)))) ((((0:Int)≤n)∧(n < (((List.length blocks):Nat):Int)))∧(((TY.chk (TY.st  [(TY.arr EK.u8 32),(TY.st  [(TY.arr EK.u8 32),(TY.arr EK.u8 32),(TY.sc EK.u32),(TY.sc EK.u32),(TY.sc EK.u32)]),(TY.sc EK.i),(TY.sc EK.u32),(TY.arr EK.u64 4)])  s0 )=true)∧(((8:UInt32)≠(0:UInt32))∧(zaf (decide ((((PV.scv EK.u32 (PV.fld 3  s0 ))+(1:UInt32)) % (8:UInt32))=(0:UInt32))) (False) ( s1 ∧(Q (zeC (((PV.scv EK.u32 (PV.fld 3  s0 ))+(1:UInt32)),(PV.scv EK.u32 (PV.fld 2 (PV.fld 1  s0 ))),(PV.scv EK.u32 (PV.fld 3 (PV.fld 1  s0 ))),(PV.vecv EK.u8 32 (PV.fld 0  s0 )),(0:Int),best,blocks,ids)))))))))))):=by kernel_rfl
theorem zFp (blocks:List PV) (ids:List (PV × PV)) (best:Int) (n:Int) {r} {Q:CallOut→Prop} (h:tree_Ctx blocks ids best n=some r) (hQ:Q (zeC r)):zac zvO zmK zvZ zng zoR [.p 60000 [],.pv (.sc .i n)] [(60000,.box (.st [.o 60001,.o 60002,.pv (.sc .i best)])),(60001,.row (.p 105 blocks) false),(60002,.map ids)] Q :=
 Eq.mpr (zEe blocks ids best n Q) (have h:=(tree_Ctx.eq_1 blocks ids best n).symm.trans h; zad h fun hc0 h=>⟨hc0,zab h (fun h=>zad h fun hc1 h=>zag (Q:=Q) (e:=zeC) h hQ) (fun h=>zad h fun hc1 h=>zad h fun hc2 h=>⟨by decide +kernel,zab h (fun h=>zb9 h) (fun h=>zad h fun hc3 h=>zag (Q:=Q) (e:=zeC) h hQ)⟩)⟩)
def zlr:Ans
 | [.p 60000 [],.pv (.sc .i n)],[(60000,.box (.st [.o 60001,.o 60002,.pv (.sc .i best)])),(60001,.row (.p 105 blocks) false),(60002,.map ids)]=>some (some (tvC (TV.mk blocks ids best)∧zGk blocks n),zeC ((bif zdN blocks n then(zak blocks n).height+1 else 0,(zak blocks n).time,(zak blocks n).bits,(zak blocks n).id,bif zdN blocks n then 0 else 2,best,blocks,ids)))
 | _,_=>none
theorem zy0:TblOK Tryd.prog theG zo9:=.cons ⟨by kernel_rfl,zgh⟩ (.cons ⟨by kernel_rfl,ztK⟩ (.cons ⟨by kernel_rfl,ztT⟩ (.nil)))
theorem zBS:FnOK Tryd.prog theG 15 (unW zlr):=by
 refine FnOK.ofC (T:=zo9) (nt:=87) (np:=1) (mv:=[]) (nf:=false) (hs:=zng) (fn:=Tryd.f15) (body:=zoR) zy0 (by kernel_rfl) (by kernel_rfl) (by kernel_rfl) (by kernel_rfl) (c:=zlr) (lv:=zmK) ?_
 intro xs mem p out h hp
 unfold zlr at h
 split at h
 ·cases h
  exact zFp _ _ _ _ (zwG _ _ _ _ hp.1 hp.2) rfl
 ·cases h
end
end Go.Proofs.YtnolgfdjcipmmaaDoor.M
