/- Part of the proofs: what functions of the program do: plain functions, and the walks that show it. No condition. -/
import Derived.KernelRfl
import Derived.Test.YtnolgfdjcipmmaaDoorProg
import Derived.Test.YtnolgfdjcipmmaaDoorLe
import Derived.Test.YtnolgfdjcipmmaaDoorFref08
import Derived.Test.YtnolgfdjcipmmaaDoorFref04
import Derived.Test.YtnolgfdjcipmmaaDoorSwords
import Derived.Test.YtnolgfdjcipmmaaDoorSshaS
import Derived.Test.YtnolgfdjcipmmaaDoorSendS
import Derived.Test.YtnolgfdjcipmmaaDoorStarS
import Derived.Test.YtnolgfdjcipmmaaDoorSbigS
import Derived.Test.YtnolgfdjcipmmaaDoorStreS
import Derived.Test.YtnolgfdjcipmmaaDoorFref03
import Derived.Test.YtnolgfdjcipmmaaDoorSshaK
set_option linter.unusedVariables false
set_option linter.unusedSimpArgs false
set_option autoImplicit false
namespace Go.Proofs.YtnolgfdjcipmmaaDoor.M
open Go
noncomputable section
def ref28_New  : List PV :=
 [(PV.st (List.set (List.set (List.set (List.set (List.reverse  [(PV.arr EK.u64 4 (Vector.replicate 4 (0:UInt64))),(PV.sc EK.u32 (0:UInt32)),(PV.sc EK.i (0:Int)),(PV.st (List.reverse  [(PV.sc EK.u32 (0:UInt32)),(PV.sc EK.u32 (0:UInt32)),(PV.sc EK.u32 (0:UInt32)),(PV.arr EK.u8 32 (Vector.replicate 32 (0:UInt8))),(PV.arr EK.u8 32 (Vector.replicate 32 (0:UInt8)))])),(PV.arr EK.u8 32 (Vector.replicate 32 (0:UInt8)))]) (0:Nat) (PV.arr EK.u8 32 (idV (Vector.replicate 32 (0:UInt8)) (Vector.replicate 32 (0:UInt8)) (0:UInt32) (545259519:UInt32) (0:UInt32)))) (1:Nat) (PV.st  [(PV.arr EK.u8 32 (Vector.replicate 32 (0:UInt8))),(PV.arr EK.u8 32 (Vector.replicate 32 (0:UInt8))),(PV.sc EK.u32 (0:UInt32)),(PV.sc EK.u32 (545259519:UInt32)),(PV.sc EK.u32 (0:UInt32))])) (2:Nat) (PV.sc EK.i (-(1:Int)))) (4:Nat) (PV.arr EK.u64 4 (zbN (545259519:UInt32)))))]
theorem zuH:ref28_New=zGH:=by
 rw[ref28_New.eq_1,zDE]
 rfl
end
end Go.Proofs.YtnolgfdjcipmmaaDoor.M
namespace Go.Proofs.YtnolgfdjcipmmaaDoor.M
open Go
noncomputable section
def ref28_Find_h0:Nat→Int→(Vector UInt8 32)→(List PV)→Option (Int × Int × List PV)
 | 0,_,_,_=>none
 | k+1,i,id,tm=>bif decide (i < (((List.length tm):Nat):Int)) then(if((0:Int)≤i)∧(i < (((List.length tm):Nat):Int)) then
    if(
      TY.chk (TY.st  [(TY.arr EK.u8 32),(TY.st  [(TY.arr EK.u8 32),(TY.arr EK.u8 32),(TY.sc EK.u32),(TY.sc EK.u32),(TY.sc EK.u32)]),(TY.sc EK.i),(TY.sc EK.u32),(TY.arr EK.u64 4)]) (RC.get (RC.p 105 tm)  [(PE.i (Int.toNat i))]))=true then
     if(
       TY.chk (TY.arr EK.u8 32) (RC.get (RC.p 105 tm) ( [(PE.i (Int.toNat i))]++ [(PE.f 0)])))=true then
      bif decide ((Vector.toList (PV.vecv EK.u8 32 (RC.get (RC.p 105 tm) ( [(PE.i (Int.toNat i))]++ [(PE.f 0)]))))=(Vector.toList id)) then(if(PV.flats tm)=true then
        some (i,(0:Int),tm)
       else none)
       else(ref28_Find_h0 k (w64 (i+(1:Int))) id tm)
     else none
    else none
   else none)
   else(if(PV.flats tm)=true then
    some ((0:Int),(6:Int),tm)
   else none)
def ref28_Find (k:Nat) (blocks:List PV) (id:Vector UInt8 32):Option (Int × Int × List PV) :=
 ref28_Find_h0 k (0:Int) id blocks
theorem zkK {ks:List KN} (hl:ks.length≤200) (id:Vector UInt8 32):∀ (rest:List KN) (i:Nat),ks.drop i=rest →
  ref28_Find_h0 (rest.length+1) (i:Int) id (ks.map knPV)=some (match zeJ rest id with
   | some j=>(((i+j:Nat):Int),0,ks.map knPV)
   | none=>(0,6,ks.map knPV))
 | [],i,hd=>by
  have hi2:ks.length≤i:=List.drop_eq_nil_iff.1 hd
  rw[ref28_Find_h0.eq_2,decide_eq_false (by rw[List.length_map]; omega)]
  simp only[cond_false]
  rw[if_pos (zlN ks)]
  rfl
 | k :: r,i,hd=>by
  obtain ⟨hi,hk,hd'⟩:=zJM hd kn0
  have ih:=zkK hl id r (i+1) hd'
  rw[List.length_cons,ref28_Find_h0.eq_2,decide_eq_true (by rw[List.length_map]; omega)]
  simp only[cond_true]
  rw[if_pos ⟨by omega,by rw[List.length_map]; omega⟩,Int.toNat_natCast,zBW hi,if_pos (show TY.chk (TY.st [TY.arr EK.u8 32,TY.st [TY.arr EK.u8 32,TY.arr EK.u8 32,TY.sc EK.u32,TY.sc EK.u32,TY.sc EK.u32],TY.sc EK.i,TY.sc EK.u32,TY.arr EK.u64 4]) (knPV (ks.getD i kn0))=true from rfl),zIv hi,hk,if_pos (show TY.chk (TY.arr EK.u8 32) (PV.arr EK.u8 32 k.id)=true from rfl),zlK,if_pos (zlN ks),zaj (by omega) (by omega),show ((i:Nat):Int)+1=((i+1:Nat):Int) by omega,ih]
  by_cases he:id=k.id
  ·rw[decide_eq_true (show k.id.toList=id.toList by rw[he])]
   rw[zd5,if_pos he]
   rfl
  ·rw[decide_eq_false (fun q=>he (Vector.toList_inj.1 q).symm)]
   rw[zd5,if_neg he]
   cases zeJ r id with
   | none=>rfl
   | some j =>
    show some (((i+1+j:Nat):Int),(0:Int),ks.map knPV)=some (((i+(j+1):Nat):Int),0,ks.map knPV)
    rw[show i+1+j=i+(j+1) by omega]
theorem zsm (blocks:List PV) (id:Vector UInt8 32) (h:rtC blocks):∃ k,ref28_Find k blocks id=some ((zaA blocks id).1,(zaA blocks id).2,blocks):=by
 obtain ⟨ks,ok,rfl⟩:=h.get
 refine ⟨ks.length+1,?_⟩
 rw[ref28_Find.eq_1,zyO,zjr]
 have:=zkK ok.len id ks 0 rfl
 refine this.trans ?_
 cases zeJ ks id with
 | none=>rfl
 | some j =>
  show some (((0+j:Nat):Int),(0:Int),ks.map knPV)=_
  rw[Nat.zero_add]
end
end Go.Proofs.YtnolgfdjcipmmaaDoor.M
namespace Go.Proofs.YtnolgfdjcipmmaaDoor.M
open Go
noncomputable section
def ref28_Add (blocks:List PV) (h_1_Prev:Vector UInt8 32) (h_1_Root:Vector UInt8 32) (h_1_Time:UInt32) (h_1_Bits:UInt32) (h_1_Nonce:UInt32):Option (Int × Int × List PV) :=
 if rtC blocks then
  bif decide (
        (Prod.snd (zaA blocks (idV h_1_Prev h_1_Root h_1_Time h_1_Bits h_1_Nonce)))=(0:Int)) then(if(PV.flats blocks)=true then
    some ((0:Int),(7:Int),blocks)
   else none)
   else(
      bif !(
         decide (
             (Prod.snd (zaA blocks h_1_Prev))=(0:Int))) then(if(PV.flats blocks)=true then
     some ((0:Int),(6:Int),blocks)
    else none)
    else(
       bif !(
          decide ((ofE h_1_Bits)=(0:Int))) then(if(PV.flats blocks)=true then
      some ((0:Int),(5:Int),blocks)
     else none)
     else(
        bif decide ((200:Int)≤(((List.length blocks):Nat):Int)) then(if(PV.flats blocks)=true then
       some ((0:Int),(3:Int),blocks)
      else none)
      else(
         if(
           (0:Int)≤(Prod.fst (zaA blocks h_1_Prev)))∧((Prod.fst (zaA blocks h_1_Prev)) < (((List.length blocks):Nat):Int)) then
       if(
         TY.chk (
             TY.st  [(TY.arr EK.u8 32),(TY.st  [(TY.arr EK.u8 32),(TY.arr EK.u8 32),(TY.sc EK.u32),(TY.sc EK.u32),(TY.sc EK.u32)]),(TY.sc EK.i),(TY.sc EK.u32),(TY.arr EK.u64 4)]) (RC.get (RC.p 105 blocks)  [(PE.i (Int.toNat (Prod.fst (zaA blocks h_1_Prev))))]))=true then
        if(
          TY.chk (TY.arr EK.u64 4) (RC.get (RC.p 105 blocks) ( [(PE.i (Int.toNat (Prod.fst (zaA blocks h_1_Prev))))]++ [(PE.f 4)])))=true then
         bif addB (PV.vecv EK.u64 4 (RC.get (RC.p 105 blocks) ( [(PE.i (Int.toNat (Prod.fst (zaA blocks h_1_Prev))))]++ [(PE.f 4)]))) (zbN h_1_Bits) then(if(TY.chk (TY.sc EK.u32) (RC.get (RC.p 105 blocks) ( [(PE.i (Int.toNat (Prod.fst (zaA blocks h_1_Prev))))]++ [(PE.f 3)])))=true then
           if(
             ((List.length (blocks++ [(PV.st (List.set (List.set (List.set (List.set (List.set (List.reverse  [(PV.arr EK.u64 4 (Vector.replicate 4 (0:UInt64))),(PV.sc EK.u32 (0:UInt32)),(PV.sc EK.i (0:Int)),(PV.st (List.reverse  [(PV.sc EK.u32 (0:UInt32)),(PV.sc EK.u32 (0:UInt32)),(PV.sc EK.u32 (0:UInt32)),(PV.arr EK.u8 32 (Vector.replicate 32 (0:UInt8))),(PV.arr EK.u8 32 (Vector.replicate 32 (0:UInt8)))])),(PV.arr EK.u8 32 (Vector.replicate 32 (0:UInt8)))]) (0:Nat) (PV.arr EK.u8 32 (idV h_1_Prev h_1_Root h_1_Time h_1_Bits h_1_Nonce))) (1:Nat) (PV.st  [(PV.arr EK.u8 32 h_1_Prev),(PV.arr EK.u8 32 h_1_Root),(PV.sc EK.u32 h_1_Time),(PV.sc EK.u32 h_1_Bits),(PV.sc EK.u32 h_1_Nonce)])) (2:Nat) (PV.sc EK.i (Prod.fst (zaA blocks h_1_Prev)))) (3:Nat) (PV.sc EK.u32 ((PV.scv EK.u32 (RC.get (RC.p 105 blocks) ( [(PE.i (Int.toNat (Prod.fst (zaA blocks h_1_Prev))))]++ [(PE.f 3)])))+(1:UInt32)))) (4:Nat) (PV.arr EK.u64 4 (subV (uW (0:Nat)) (uW (1:Nat))))))]))*(160:Nat))≤(70368744177664:Nat))∧((List.length (blocks++ [(PV.st (List.set (List.set (List.set (List.set (List.set (List.reverse  [(PV.arr EK.u64 4 (Vector.replicate 4 (0:UInt64))),(PV.sc EK.u32 (0:UInt32)),(PV.sc EK.i (0:Int)),(PV.st (List.reverse  [(PV.sc EK.u32 (0:UInt32)),(PV.sc EK.u32 (0:UInt32)),(PV.sc EK.u32 (0:UInt32)),(PV.arr EK.u8 32 (Vector.replicate 32 (0:UInt8))),(PV.arr EK.u8 32 (Vector.replicate 32 (0:UInt8)))])),(PV.arr EK.u8 32 (Vector.replicate 32 (0:UInt8)))]) (0:Nat) (PV.arr EK.u8 32 (idV h_1_Prev h_1_Root h_1_Time h_1_Bits h_1_Nonce))) (1:Nat) (PV.st  [(PV.arr EK.u8 32 h_1_Prev),(PV.arr EK.u8 32 h_1_Root),(PV.sc EK.u32 h_1_Time),(PV.sc EK.u32 h_1_Bits),(PV.sc EK.u32 h_1_Nonce)])) (2:Nat) (PV.sc EK.i (Prod.fst (zaA blocks h_1_Prev)))) (3:Nat) (PV.sc EK.u32 ((PV.scv EK.u32 (RC.get (RC.p 105 blocks) ( [(PE.i (Int.toNat (Prod.fst (zaA blocks h_1_Prev))))]++ [(PE.f 3)])))+(1:UInt32)))) (4:Nat) (PV.arr EK.u64 4 (subV (uW (0:Nat)) (uW (1:Nat))))))]))≤(70368744177664:Nat)) then
            if(PV.flats (blocks++ [(PV.st (List.set (List.set (List.set (List.set (List.set (List.reverse  [(PV.arr EK.u64 4 (Vector.replicate 4 (0:UInt64))),(PV.sc EK.u32 (0:UInt32)),(PV.sc EK.i (0:Int)),(PV.st (List.reverse  [(PV.sc EK.u32 (0:UInt32)),(PV.sc EK.u32 (0:UInt32)),(PV.sc EK.u32 (0:UInt32)),(PV.arr EK.u8 32 (Vector.replicate 32 (0:UInt8))),(PV.arr EK.u8 32 (Vector.replicate 32 (0:UInt8)))])),(PV.arr EK.u8 32 (Vector.replicate 32 (0:UInt8)))]) (0:Nat) (PV.arr EK.u8 32 (idV h_1_Prev h_1_Root h_1_Time h_1_Bits h_1_Nonce))) (1:Nat) (PV.st  [(PV.arr EK.u8 32 h_1_Prev),(PV.arr EK.u8 32 h_1_Root),(PV.sc EK.u32 h_1_Time),(PV.sc EK.u32 h_1_Bits),(PV.sc EK.u32 h_1_Nonce)])) (2:Nat) (PV.sc EK.i (Prod.fst (zaA blocks h_1_Prev)))) (3:Nat) (PV.sc EK.u32 ((PV.scv EK.u32 (RC.get (RC.p 105 blocks) ( [(PE.i (Int.toNat (Prod.fst (zaA blocks h_1_Prev))))]++ [(PE.f 3)])))+(1:UInt32)))) (4:Nat) (PV.arr EK.u64 4 (subV (uW (0:Nat)) (uW (1:Nat))))))]))=true then
             some ((w64 ((((List.length (blocks++ [(PV.st (List.set (List.set (List.set (List.set (List.set (List.reverse  [(PV.arr EK.u64 4 (Vector.replicate 4 (0:UInt64))),(PV.sc EK.u32 (0:UInt32)),(PV.sc EK.i (0:Int)),(PV.st (List.reverse  [(PV.sc EK.u32 (0:UInt32)),(PV.sc EK.u32 (0:UInt32)),(PV.sc EK.u32 (0:UInt32)),(PV.arr EK.u8 32 (Vector.replicate 32 (0:UInt8))),(PV.arr EK.u8 32 (Vector.replicate 32 (0:UInt8)))])),(PV.arr EK.u8 32 (Vector.replicate 32 (0:UInt8)))]) (0:Nat) (PV.arr EK.u8 32 (idV h_1_Prev h_1_Root h_1_Time h_1_Bits h_1_Nonce))) (1:Nat) (PV.st  [(PV.arr EK.u8 32 h_1_Prev),(PV.arr EK.u8 32 h_1_Root),(PV.sc EK.u32 h_1_Time),(PV.sc EK.u32 h_1_Bits),(PV.sc EK.u32 h_1_Nonce)])) (2:Nat) (PV.sc EK.i (Prod.fst (zaA blocks h_1_Prev)))) (3:Nat) (PV.sc EK.u32 ((PV.scv EK.u32 (RC.get (RC.p 105 blocks) ( [(PE.i (Int.toNat (Prod.fst (zaA blocks h_1_Prev))))]++ [(PE.f 3)])))+(1:UInt32)))) (4:Nat) (PV.arr EK.u64 4 (subV (uW (0:Nat)) (uW (1:Nat))))))])):Nat):Int) - (1:Int))),(0:Int),(blocks++ [(PV.st (List.set (List.set (List.set (List.set (List.set (List.reverse  [(PV.arr EK.u64 4 (Vector.replicate 4 (0:UInt64))),(PV.sc EK.u32 (0:UInt32)),(PV.sc EK.i (0:Int)),(PV.st (List.reverse  [(PV.sc EK.u32 (0:UInt32)),(PV.sc EK.u32 (0:UInt32)),(PV.sc EK.u32 (0:UInt32)),(PV.arr EK.u8 32 (Vector.replicate 32 (0:UInt8))),(PV.arr EK.u8 32 (Vector.replicate 32 (0:UInt8)))])),(PV.arr EK.u8 32 (Vector.replicate 32 (0:UInt8)))]) (0:Nat) (PV.arr EK.u8 32 (idV h_1_Prev h_1_Root h_1_Time h_1_Bits h_1_Nonce))) (1:Nat) (PV.st  [(PV.arr EK.u8 32 h_1_Prev),(PV.arr EK.u8 32 h_1_Root),(PV.sc EK.u32 h_1_Time),(PV.sc EK.u32 h_1_Bits),(PV.sc EK.u32 h_1_Nonce)])) (2:Nat) (PV.sc EK.i (Prod.fst (zaA blocks h_1_Prev)))) (3:Nat) (PV.sc EK.u32 ((PV.scv EK.u32 (RC.get (RC.p 105 blocks) ( [(PE.i (Int.toNat (Prod.fst (zaA blocks h_1_Prev))))]++ [(PE.f 3)])))+(1:UInt32)))) (4:Nat) (PV.arr EK.u64 4 (subV (uW (0:Nat)) (uW (1:Nat))))))]))
            else none
           else none
          else none)
          else(
             if(TY.chk (TY.sc EK.u32) (RC.get (RC.p 105 blocks) ( [(PE.i (Int.toNat (Prod.fst (zaA blocks h_1_Prev))))]++ [(PE.f 3)])))=true then
           if(
             ((List.length (blocks++ [(PV.st (List.set (List.set (List.set (List.set (List.set (List.reverse  [(PV.arr EK.u64 4 (Vector.replicate 4 (0:UInt64))),(PV.sc EK.u32 (0:UInt32)),(PV.sc EK.i (0:Int)),(PV.st (List.reverse  [(PV.sc EK.u32 (0:UInt32)),(PV.sc EK.u32 (0:UInt32)),(PV.sc EK.u32 (0:UInt32)),(PV.arr EK.u8 32 (Vector.replicate 32 (0:UInt8))),(PV.arr EK.u8 32 (Vector.replicate 32 (0:UInt8)))])),(PV.arr EK.u8 32 (Vector.replicate 32 (0:UInt8)))]) (0:Nat) (PV.arr EK.u8 32 (idV h_1_Prev h_1_Root h_1_Time h_1_Bits h_1_Nonce))) (1:Nat) (PV.st  [(PV.arr EK.u8 32 h_1_Prev),(PV.arr EK.u8 32 h_1_Root),(PV.sc EK.u32 h_1_Time),(PV.sc EK.u32 h_1_Bits),(PV.sc EK.u32 h_1_Nonce)])) (2:Nat) (PV.sc EK.i (Prod.fst (zaA blocks h_1_Prev)))) (3:Nat) (PV.sc EK.u32 ((PV.scv EK.u32 (RC.get (RC.p 105 blocks) ( [(PE.i (Int.toNat (Prod.fst (zaA blocks h_1_Prev))))]++ [(PE.f 3)])))+(1:UInt32)))) (4:Nat) (PV.arr EK.u64 4 (addV (PV.vecv EK.u64 4 (RC.get (RC.p 105 blocks) ( [(PE.i (Int.toNat (Prod.fst (zaA blocks h_1_Prev))))]++ [(PE.f 4)]))) (zbN h_1_Bits)))))]))*(160:Nat))≤(70368744177664:Nat))∧((List.length (blocks++ [(PV.st (List.set (List.set (List.set (List.set (List.set (List.reverse  [(PV.arr EK.u64 4 (Vector.replicate 4 (0:UInt64))),(PV.sc EK.u32 (0:UInt32)),(PV.sc EK.i (0:Int)),(PV.st (List.reverse  [(PV.sc EK.u32 (0:UInt32)),(PV.sc EK.u32 (0:UInt32)),(PV.sc EK.u32 (0:UInt32)),(PV.arr EK.u8 32 (Vector.replicate 32 (0:UInt8))),(PV.arr EK.u8 32 (Vector.replicate 32 (0:UInt8)))])),(PV.arr EK.u8 32 (Vector.replicate 32 (0:UInt8)))]) (0:Nat) (PV.arr EK.u8 32 (idV h_1_Prev h_1_Root h_1_Time h_1_Bits h_1_Nonce))) (1:Nat) (PV.st  [(PV.arr EK.u8 32 h_1_Prev),(PV.arr EK.u8 32 h_1_Root),(PV.sc EK.u32 h_1_Time),(PV.sc EK.u32 h_1_Bits),(PV.sc EK.u32 h_1_Nonce)])) (2:Nat) (PV.sc EK.i (Prod.fst (zaA blocks h_1_Prev)))) (3:Nat) (PV.sc EK.u32 ((PV.scv EK.u32 (RC.get (RC.p 105 blocks) ( [(PE.i (Int.toNat (Prod.fst (zaA blocks h_1_Prev))))]++ [(PE.f 3)])))+(1:UInt32)))) (4:Nat) (PV.arr EK.u64 4 (addV (PV.vecv EK.u64 4 (RC.get (RC.p 105 blocks) ( [(PE.i (Int.toNat (Prod.fst (zaA blocks h_1_Prev))))]++ [(PE.f 4)]))) (zbN h_1_Bits)))))]))≤(70368744177664:Nat)) then
            if(PV.flats (blocks++ [(PV.st (List.set (List.set (List.set (List.set (List.set (List.reverse  [(PV.arr EK.u64 4 (Vector.replicate 4 (0:UInt64))),(PV.sc EK.u32 (0:UInt32)),(PV.sc EK.i (0:Int)),(PV.st (List.reverse  [(PV.sc EK.u32 (0:UInt32)),(PV.sc EK.u32 (0:UInt32)),(PV.sc EK.u32 (0:UInt32)),(PV.arr EK.u8 32 (Vector.replicate 32 (0:UInt8))),(PV.arr EK.u8 32 (Vector.replicate 32 (0:UInt8)))])),(PV.arr EK.u8 32 (Vector.replicate 32 (0:UInt8)))]) (0:Nat) (PV.arr EK.u8 32 (idV h_1_Prev h_1_Root h_1_Time h_1_Bits h_1_Nonce))) (1:Nat) (PV.st  [(PV.arr EK.u8 32 h_1_Prev),(PV.arr EK.u8 32 h_1_Root),(PV.sc EK.u32 h_1_Time),(PV.sc EK.u32 h_1_Bits),(PV.sc EK.u32 h_1_Nonce)])) (2:Nat) (PV.sc EK.i (Prod.fst (zaA blocks h_1_Prev)))) (3:Nat) (PV.sc EK.u32 ((PV.scv EK.u32 (RC.get (RC.p 105 blocks) ( [(PE.i (Int.toNat (Prod.fst (zaA blocks h_1_Prev))))]++ [(PE.f 3)])))+(1:UInt32)))) (4:Nat) (PV.arr EK.u64 4 (addV (PV.vecv EK.u64 4 (RC.get (RC.p 105 blocks) ( [(PE.i (Int.toNat (Prod.fst (zaA blocks h_1_Prev))))]++ [(PE.f 4)]))) (zbN h_1_Bits)))))]))=true then
             some ((w64 ((((List.length (blocks++ [(PV.st (List.set (List.set (List.set (List.set (List.set (List.reverse  [(PV.arr EK.u64 4 (Vector.replicate 4 (0:UInt64))),(PV.sc EK.u32 (0:UInt32)),(PV.sc EK.i (0:Int)),(PV.st (List.reverse  [(PV.sc EK.u32 (0:UInt32)),(PV.sc EK.u32 (0:UInt32)),(PV.sc EK.u32 (0:UInt32)),(PV.arr EK.u8 32 (Vector.replicate 32 (0:UInt8))),(PV.arr EK.u8 32 (Vector.replicate 32 (0:UInt8)))])),(PV.arr EK.u8 32 (Vector.replicate 32 (0:UInt8)))]) (0:Nat) (PV.arr EK.u8 32 (idV h_1_Prev h_1_Root h_1_Time h_1_Bits h_1_Nonce))) (1:Nat) (PV.st  [(PV.arr EK.u8 32 h_1_Prev),(PV.arr EK.u8 32 h_1_Root),(PV.sc EK.u32 h_1_Time),(PV.sc EK.u32 h_1_Bits),(PV.sc EK.u32 h_1_Nonce)])) (2:Nat) (PV.sc EK.i (Prod.fst (zaA blocks h_1_Prev)))) (3:Nat) (PV.sc EK.u32 ((PV.scv EK.u32 (RC.get (RC.p 105 blocks) ( [(PE.i (Int.toNat (Prod.fst (zaA blocks h_1_Prev))))]++ [(PE.f 3)])))+(1:UInt32)))) (4:Nat) (PV.arr EK.u64 4 (addV (PV.vecv EK.u64 4 (RC.get (RC.p 105 blocks) ( [(PE.i (Int.toNat (Prod.fst (zaA blocks h_1_Prev))))]++ [(PE.f 4)]))) (zbN h_1_Bits)))))])):Nat):Int) - (1:Int))),(0:Int),(blocks++ [(PV.st (List.set (List.set (List.set (List.set (List.set (List.reverse  [(PV.arr EK.u64 4 (Vector.replicate 4 (0:UInt64))),(PV.sc EK.u32 (0:UInt32)),(PV.sc EK.i (0:Int)),(PV.st (List.reverse  [(PV.sc EK.u32 (0:UInt32)),(PV.sc EK.u32 (0:UInt32)),(PV.sc EK.u32 (0:UInt32)),(PV.arr EK.u8 32 (Vector.replicate 32 (0:UInt8))),(PV.arr EK.u8 32 (Vector.replicate 32 (0:UInt8)))])),(PV.arr EK.u8 32 (Vector.replicate 32 (0:UInt8)))]) (0:Nat) (PV.arr EK.u8 32 (idV h_1_Prev h_1_Root h_1_Time h_1_Bits h_1_Nonce))) (1:Nat) (PV.st  [(PV.arr EK.u8 32 h_1_Prev),(PV.arr EK.u8 32 h_1_Root),(PV.sc EK.u32 h_1_Time),(PV.sc EK.u32 h_1_Bits),(PV.sc EK.u32 h_1_Nonce)])) (2:Nat) (PV.sc EK.i (Prod.fst (zaA blocks h_1_Prev)))) (3:Nat) (PV.sc EK.u32 ((PV.scv EK.u32 (RC.get (RC.p 105 blocks) ( [(PE.i (Int.toNat (Prod.fst (zaA blocks h_1_Prev))))]++ [(PE.f 3)])))+(1:UInt32)))) (4:Nat) (PV.arr EK.u64 4 (addV (PV.vecv EK.u64 4 (RC.get (RC.p 105 blocks) ( [(PE.i (Int.toNat (Prod.fst (zaA blocks h_1_Prev))))]++ [(PE.f 4)]))) (zbN h_1_Bits)))))]))
            else none
           else none
          else none)
        else none
       else none
      else none))))
 else none
theorem zII:uW 0=Vector.replicate 4 0:=by decide
theorem zzT (ks:List KN) (id:Vector UInt8 32):zaA (ks.map knPV) id=(match zeJ ks id with
 | some i=>((i:Int),0)
 | none=>(0,6)):=by
 rw[zyO,zjr]
 cases zeJ ks id<;>rfl
theorem zt2 (blocks:List PV) (p r:Vector UInt8 32) (t b n:UInt32) (h:rtC blocks) :
  ref28_Add blocks p r t b n=some ((zqR blocks p r t b n).1,(zqR blocks p r t b n).2.1,(zqR blocks p r t b n).2.2):=by
 have hC:=h
 obtain ⟨ks,ok,e⟩:=h.get
 subst e
 rw[zDx,zjr]
 have hlen:=ok.len
 have hfl:=zlN ks
 rw[ref28_Add.eq_1,if_pos hC,zzT,zzT]
 unfold tAdd
 cases h1:zeJ ks (idV p r t b n) with
 | some i =>
  show (bif decide ((0:Int)=0)then _ else _)=_
  rw[decide_eq_true rfl]
  simp only[cond_true]
  rw[if_pos hfl]
 | none =>
  show (bif decide ((6:Int)=0)then _ else _)=_
  rw[decide_eq_false (by decide)]
  simp only[cond_false]
  cases h2:zeJ ks p with
  | none =>
   show (bif !decide ((6:Int)=0)then _ else _)=_
   rw[decide_eq_false (by decide)]
   simp only[Bool.not_false,cond_true]
   rw[if_pos hfl]
  | some i =>
   obtain ⟨hi,_⟩:=zrr h2
   simp only[decide_true,Bool.not_true,cond_false,Int.toNat_natCast]
   by_cases h3:ofE b=0
   ·rw[decide_eq_true h3,if_neg (show ¬ (ofE b≠0)from fun q=>q h3)]
    simp only[Bool.not_true,cond_false,List.length_map]
    by_cases h4:200≤ks.length
    ·rw[decide_eq_true (show (200:Int)≤((ks.length:Nat):Int) by omega),if_pos h4]
     simp only[cond_true]
     rw[if_pos hfl]
    ·rw[decide_eq_false (show ¬ (200:Int)≤((ks.length:Nat):Int) by omega),if_neg h4]
     simp only[cond_false]
     rw[if_pos (show (0:Int)≤((i:Nat):Int)∧((i:Nat):Int) < ((ks.length:Nat):Int) by omega),zBW hi,if_pos (show TY.chk (TY.st [TY.arr EK.u8 32,TY.st [TY.arr EK.u8 32,TY.arr EK.u8 32,TY.sc EK.u32,TY.sc EK.u32,TY.sc EK.u32],TY.sc EK.i,TY.sc EK.u32,TY.arr EK.u64 4]) (knPV (ks.getD i kn0))=true from rfl),zGl hi,zIk hi,if_pos (show TY.chk (TY.arr EK.u64 4) (PV.arr EK.u64 4 (ks.getD i kn0).work)=true from rfl)]
     have hN:∀ W:Vector UInt64 4,PV.st (List.set (List.set (List.set (List.set (List.set (List.reverse  [(PV.arr EK.u64 4 (Vector.replicate 4 (0:UInt64))),(PV.sc EK.u32 (0:UInt32)),(PV.sc EK.i (0:Int)),(PV.st (List.reverse  [(PV.sc EK.u32 (0:UInt32)),(PV.sc EK.u32 (0:UInt32)),(PV.sc EK.u32 (0:UInt32)),(PV.arr EK.u8 32 (Vector.replicate 32 (0:UInt8))),(PV.arr EK.u8 32 (Vector.replicate 32 (0:UInt8)))])),(PV.arr EK.u8 32 (Vector.replicate 32 (0:UInt8)))]) (0:Nat) (PV.arr EK.u8 32 (idV p r t b n))) (1:Nat) (PV.st  [(PV.arr EK.u8 32 p),(PV.arr EK.u8 32 r),(PV.sc EK.u32 t),(PV.sc EK.u32 b),(PV.sc EK.u32 n)])) (2:Nat) (PV.sc EK.i (i:Int))) (3:Nat) (PV.sc EK.u32 ((PV.scv EK.u32 (PV.sc EK.u32 (ks.getD i kn0).height))+(1:UInt32)))) (4:Nat) (PV.arr EK.u64 4 W))=knPV ⟨idV p r t b n,p,r,t,b,n,(i:Int),(ks.getD i kn0).height+1,W⟩:=fun W=>rfl
     have hK:∀ W,W=(zdF ks i p r t b n).work→(⟨idV p r t b n,p,r,t,b,n,(i:Int),(ks.getD i kn0).height+1,W⟩:KN)=zdF ks i p r t b n:=fun W hW=>by rw[hW]; rfl
     rw[zlK]
     cases hab:addB (ks.getD i kn0).work (zbN b)
     case' true=>have hW:subV (uW 0) (uW 1)=(zdF ks i p r t b n).work:=by show _=zkw _ _; unfold zkw; rw[hab,zII]; rfl
     case' false=>have hW:addV (ks.getD i kn0).work (zbN b)=(zdF ks i p r t b n).work:=by show _=zkw _ _; unfold zkw; rw[hab]; rfl
     all_goals
      simp only[cond_true,cond_false,hN,hK _ hW]
      have hM:List.map knPV ks++[knPV (zdF ks i p r t b n)]=(ks++[zdF ks i p r t b n]).map knPV:=by rw[List.map_append]; rfl
      have hl2:(ks++[zdF ks i p r t b n]).length=ks.length+1:=by simp
      have hf2:=zlN (ks++[zdF ks i p r t b n])
      rw[if_pos (show TY.chk (TY.sc EK.u32) (PV.sc EK.u32 (ks.getD i kn0).height)=true from rfl),hM,List.length_map,hl2,if_pos (show (ks.length+1)*160≤70368744177664∧ks.length+1≤70368744177664 from ⟨by omega,by omega⟩),if_pos hf2,zaj (by omega) (by omega),show (((ks.length+1:Nat):Int) - 1)=((ks.length:Nat):Int) by omega]
   ·rw[decide_eq_false h3,if_pos (show ofE b≠0 from h3)]
    simp only[Bool.not_false,cond_true]
    rw[if_pos hfl]
end
end Go.Proofs.YtnolgfdjcipmmaaDoor.M
namespace Go.Proofs.YtnolgfdjcipmmaaDoor.M
open Go
noncomputable section
set_option maxRecDepth 100000
set_option maxHeartbeats 0
noncomputable def zmI:Tbl:=[(22,[],ze7),(23,[],zga),(24,[],zgU)]
noncomputable def ztx:CfgW:=mkC Tryd.prog theG zmI 19 0 false
def zlm:Nat→List Nat:=fun i=>[]
noncomputable abbrev zmz:Code:=Tryd.f6.body.getD .skip
noncomputable abbrev ztv:List ResultVar:=Tryd.f6.results.toList
def zkR:List Nat:=[]
def zeN (r:List PV):CallOut:=⟨.p 60000 [],[(60000,.box (.st [.o 60001])),(60001,.row (.p 105 r) false)],true,[]⟩
theorem zBO  (Q:CallOut→Prop):zac ztx zlm ztv zkR zmz [] [] Q =
 (let s0:= [(PV.st (List.set (List.set (List.set (List.set (List.reverse  [(PV.arr EK.u64 4 (Vector.replicate 4 (0:UInt64))),(PV.sc EK.u32 (0:UInt32)),(PV.sc EK.i (0:Int)),(PV.st (List.reverse  [(PV.sc EK.u32 (0:UInt32)),(PV.sc EK.u32 (0:UInt32)),(PV.sc EK.u32 (0:UInt32)),(PV.arr EK.u8 32 (Vector.replicate 32 (0:UInt8))),(PV.arr EK.u8 32 (Vector.replicate 32 (0:UInt8)))])),(PV.arr EK.u8 32 (Vector.replicate 32 (0:UInt8)))]) (0:Nat) (PV.arr EK.u8 32 (idV (Vector.replicate 32 (0:UInt8)) (Vector.replicate 32 (0:UInt8)) (0:UInt32) (545259519:UInt32) (0:UInt32)))) (1:Nat) (PV.st  [(PV.arr EK.u8 32 (Vector.replicate 32 (0:UInt8))),(PV.arr EK.u8 32 (Vector.replicate 32 (0:UInt8))),(PV.sc EK.u32 (0:UInt32)),(PV.sc EK.u32 (545259519:UInt32)),(PV.sc EK.u32 (0:UInt32))])) (2:Nat) (PV.sc EK.i (-(1:Int)))) (4:Nat) (PV.arr EK.u64 4 (zbN (545259519:UInt32)))))];(((PV.flats  s0 )=true)∧(Q (zeN  s0 )))):=by kernel_rfl
theorem zBv  {Q:CallOut→Prop} (h:Q (zeN (ref28_New ))):zac ztx zlm ztv zkR zmz [] [] Q :=
 Eq.mpr (zBO  Q) (have h:=Eq.mp (congrArg (fun r=>Q (zeN r)) (ref28_New.eq_1 )) h; ⟨by decide +kernel,h⟩)
def ziY:Ans
 | [],[]=>some (none,zeN (zGH))
 | _,_=>none
theorem zxH:TblOK Tryd.prog theG zmI:=.cons ⟨by kernel_rfl,zmj⟩ (.cons ⟨by kernel_rfl,zoj⟩ (.cons ⟨by kernel_rfl,znq⟩ (.nil)))
theorem zAF:FnOK Tryd.prog theG 6 (unW ziY):=by
 refine FnOK.ofC (T:=zmI) (nt:=19) (np:=0) (mv:=[]) (nf:=false) (hs:=zkR) (fn:=Tryd.f6) (body:=zmz) zxH (by kernel_rfl) (by kernel_rfl) (by kernel_rfl) (by kernel_rfl) (c:=ziY) (lv:=zlm) ?_
 intro xs mem p out h hp
 unfold ziY at h
 split at h
 ·cases h
  exact zBv  (congrArg zeN (zuH))
 ·cases h
end
end Go.Proofs.YtnolgfdjcipmmaaDoor.M
namespace Go.Proofs.YtnolgfdjcipmmaaDoor.M
open Go
noncomputable section
set_option maxRecDepth 100000
set_option maxHeartbeats 0
noncomputable def zk3:Tbl:=[]
noncomputable def zci:CfgW:=mkC Tryd.prog theG zk3 27 1 false
def zc3:Nat→List Nat:=fun i=>bif Nat.beq i 0 then [0,3,6]else []
noncomputable abbrev zd1:Code:=Tryd.f30.body.getD .skip
noncomputable abbrev zeD:List ResultVar:=Tryd.f30.results.toList
def zc8:List Nat:=[0]
def zcM (r:Int × Int × List PV):CallOut:=⟨.tup [.pv (.sc .i r.1),.pv (.sc .i r.2.1)],[(60000,.box (.st [.o 60001])),(60001,.row (.p 105 r.2.2) false)],true,[(0,.p 60000 [])]⟩
def zgD (i:Int) (id:Vector UInt8 32) (tm:List PV):St:=⟨[(0,.p 60000 []),(3,.p 60001 []),(6,.pv (.sc .i i))],[(60000,.box (.st [.o 60002])),(60001,.box (.pv (.arr .u8 32 id))),(60002,.row (.p 105 tm) false)]⟩
theorem zw5 (i:Int) (id:Vector UInt8 32) (tm:List PV) (Q:CallOut→Prop):zas zci zc3 [true,false,true,false] zd1 (zgD i id tm) (fnK zci zeD zc8 Q) =
 (let s0:=(RC.get (RC.p 105 tm) ( [(PE.i (Int.toNat i))]++ [(PE.f 0)]));(zaf (decide (i < (((List.length tm):Nat):Int))) ((((0:Int)≤i)∧(i < (((List.length tm):Nat):Int)))∧(((TY.chk (TY.st  [(TY.arr EK.u8 32),(TY.st  [(TY.arr EK.u8 32),(TY.arr EK.u8 32),(TY.sc EK.u32),(TY.sc EK.u32),(TY.sc EK.u32)]),(TY.sc EK.i),(TY.sc EK.u32),(TY.arr EK.u64 4)]) (RC.get (RC.p 105 tm)  [(PE.i (Int.toNat i))]))=true)∧(((TY.chk (TY.arr EK.u8 32)  s0 )=true)∧(zaf (decide ((Vector.toList (PV.vecv EK.u8 32  s0 ))=(Vector.toList id))) (((PV.flats tm)=true)∧(Q (zcM (i,(0:Int),tm)))) (zah zci zc3 [true,false,true,false] zd1 (zgD (w64 (i+(1:Int))) id tm) (fnK zci zeD zc8 Q)))))) (((PV.flats tm)=true)∧(Q (zcM ((0:Int),(6:Int),tm)))))):=by kernel_rfl
theorem zn0 {r:Int × Int × List PV} {Q:CallOut→Prop} (hQ:Q (zcM r)):∀ k:Nat,(∀ (i:Int) (id:Vector UInt8 32) (tm:List PV),ref28_Find_h0 k i id tm=some r→zah zci zc3 [true,false,true,false] zd1 (zgD i id tm) (fnK zci zeD zc8 Q))
 | 0=>fun _ _ _ h=>zb9 h
 | k+1=>fun i id tm h=>zal (Eq.mpr (zw5 i id tm Q) (have h:=(ref28_Find_h0.eq_2 i id tm k).symm.trans h; zab h (fun h=>zad h fun hc0 h=>zad h fun hc1 h=>zad h fun hc2 h=>zab h (fun h=>zad h fun hc3 h=>zag (Q:=Q) (e:=zcM) h hQ) (fun h=>(zn0 hQ k) _ _ _ h)) (fun h=>zad h fun hc0 h=>zag (Q:=Q) (e:=zcM) h hQ)))
theorem zzU (blocks:List PV) (id:Vector UInt8 32) (Q:CallOut→Prop):zac zci zc3 zeD zc8 zd1 [.p 60000 [],.pv (.arr .u8 32 id)] [(60000,.box (.st [.o 60001])),(60001,.row (.p 105 blocks) false)] Q =
  (zah zci zc3 [true,false,true,false] zd1 (zgD (0:Int) id blocks) (fnK zci zeD zc8 Q)):=by kernel_rfl
theorem zyP {k:Nat} (blocks:List PV) (id:Vector UInt8 32) {r} {Q:CallOut→Prop} (h:ref28_Find k blocks id=some r) (hQ:Q (zcM r)):zac zci zc3 zeD zc8 zd1 [.p 60000 [],.pv (.arr .u8 32 id)] [(60000,.box (.st [.o 60001])),(60001,.row (.p 105 blocks) false)] Q :=
 Eq.mpr (zzU blocks id Q) (have h:=(ref28_Find.eq_1 k blocks id).symm.trans h; (zn0 hQ _) _ _ _ h)
def zhu:Ans
 | [.p 60000 [],.pv (.arr .u8 32 id)],[(60000,.box (.st [.o 60001])),(60001,.row (.p 105 blocks) false)]=>some (some (rtC blocks),zcM (((zaA blocks id).1,(zaA blocks id).2,blocks)))
 | _,_=>none
theorem zuC:TblOK Tryd.prog theG zk3:=.nil
theorem zwT:FnOK Tryd.prog theG 30 (unW zhu):=by
 refine FnOK.ofC (T:=zk3) (nt:=27) (np:=1) (mv:=[]) (nf:=false) (hs:=zc8) (fn:=Tryd.f30) (body:=zd1) zuC (by kernel_rfl) (by kernel_rfl) (by kernel_rfl) (by kernel_rfl) (c:=zhu) (lv:=zc3) ?_
 intro xs mem p out h hp
 unfold zhu at h
 split at h
 ·cases h
  obtain ⟨k,hk⟩:=zsm _ _ hp
  exact zyP _ _ hk rfl
 ·cases h
end
end Go.Proofs.YtnolgfdjcipmmaaDoor.M
namespace Go.Proofs.YtnolgfdjcipmmaaDoor.M
open Go
noncomputable section
set_option maxRecDepth 100000
set_option maxHeartbeats 0
noncomputable def znw:Tbl:=[(24,[],zgU),(30,[true,false],zhu),(23,[],zga),(31,[],zg8),(33,[],zgS),(32,[],zfq)]
noncomputable def ztG:CfgW:=mkC Tryd.prog theG znw 95 1 false noIt [1008606000000]
def zkf:Nat→List Nat:=fun i=>[]
noncomputable abbrev zmB:Code:=Tryd.f9.body.getD .skip
noncomputable abbrev zsZ:List ResultVar:=Tryd.f9.results.toList
def zkN:List Nat:=[0]
def za8 (r:Int × Int × List PV):CallOut:=⟨.tup [.pv (.sc .i r.1),.pv (.sc .i r.2.1)],[(60000,.box (.st [.o 60001])),(60001,.row (.p 105 r.2.2) false)],true,[(0,.p 60000 [])]⟩
theorem zCU (blocks:List PV) (h_1_Prev:Vector UInt8 32) (h_1_Root:Vector UInt8 32) (h_1_Time:UInt32) (h_1_Bits:UInt32) (h_1_Nonce:UInt32) (Q:CallOut→Prop):zac ztG zkf zsZ zkN zmB [.p 60000 [],.pv (.st [.arr .u8 32 h_1_Prev,.arr .u8 32 h_1_Root,.sc .u32 h_1_Time,.sc .u32 h_1_Bits,.sc .u32 h_1_Nonce])] [(60000,.box (.st [.o 60001])),(60001,.row (.p 105 blocks) false)] Q =
 (let s0:=(List.set (List.set (List.set (List.set (List.reverse  [(PV.arr EK.u64 4 (Vector.replicate 4 (0:UInt64))),(PV.sc EK.u32 (0:UInt32)),(PV.sc EK.i (0:Int)),(PV.st (List.reverse  [(PV.sc EK.u32 (0:UInt32)),(PV.sc EK.u32 (0:UInt32)),(PV.sc EK.u32 (0:UInt32)),(PV.arr EK.u8 32 (Vector.replicate 32 (0:UInt8))),(PV.arr EK.u8 32 (Vector.replicate 32 (0:UInt8)))])),(PV.arr EK.u8 32 (Vector.replicate 32 (0:UInt8)))]) (0:Nat) (PV.arr EK.u8 32 (idV h_1_Prev h_1_Root h_1_Time h_1_Bits h_1_Nonce))) (1:Nat) (PV.st  [(PV.arr EK.u8 32 h_1_Prev),(PV.arr EK.u8 32 h_1_Root),(PV.sc EK.u32 h_1_Time),(PV.sc EK.u32 h_1_Bits),(PV.sc EK.u32 h_1_Nonce)])) (2:Nat) (PV.sc EK.i (Prod.fst (zaA blocks h_1_Prev)))) (3:Nat) (PV.sc EK.u32 ((PV.scv EK.u32 (RC.get (RC.p 105 blocks) ( [(PE.i (Int.toNat (Prod.fst (zaA blocks h_1_Prev))))]++ [(PE.f 3)])))+(1:UInt32))));let s1:=(blocks++ [(PV.st (List.set  s0  (4:Nat) (PV.arr EK.u64 4 (addV (PV.vecv EK.u64 4 (RC.get (RC.p 105 blocks) ( [(PE.i (Int.toNat (Prod.fst (zaA blocks h_1_Prev))))]++ [(PE.f 4)]))) (zbN h_1_Bits)))))]);let s2:=((TY.chk (TY.st  [(TY.arr EK.u8 32),(TY.st  [(TY.arr EK.u8 32),(TY.arr EK.u8 32),(TY.sc EK.u32),(TY.sc EK.u32),(TY.sc EK.u32)]),(TY.sc EK.i),(TY.sc EK.u32),(TY.arr EK.u64 4)]) (RC.get (RC.p 105 blocks)  [(PE.i (Int.toNat (Prod.fst (zaA blocks h_1_Prev))))]))=true);let s3:=(blocks++ [(PV.st (List.set  s0  (4:Nat) (PV.arr EK.u64 4 (subV (uW (0:Nat)) (uW (1:Nat))))))]);let s4:=(((0:Int)≤(Prod.fst (zaA blocks h_1_Prev)))∧((Prod.fst (zaA blocks h_1_Prev)) < (((List.length blocks):Nat):Int)));let s5:= [(PE.i (Int.toNat (Prod.fst (zaA blocks h_1_Prev))))];let s6:=((TY.chk (TY.sc EK.u32) (RC.get (RC.p 105 blocks) ( s5 ++ [(PE.f 3)])))=true);((rtC blocks)∧(zaf (decide ((Prod.snd (zaA blocks (idV h_1_Prev h_1_Root h_1_Time h_1_Bits h_1_Nonce)))=(0:Int))) (((PV.flats blocks)=true)∧(Q (za8 ((0:Int),(7:Int),blocks)))) ((rtC blocks)∧(zaf (!(decide ((Prod.snd (zaA blocks h_1_Prev))=(0:Int)))) (((PV.flats blocks)=true)∧(Q (za8 ((0:Int),(6:Int),blocks)))) (zaf (!(decide ((ofE h_1_Bits)=(0:Int)))) (((PV.flats blocks)=true)∧(Q (za8 ((0:Int),(5:Int),blocks)))) (zaf (decide ((200:Int)≤(((List.length blocks):Nat):Int))) (((PV.flats blocks)=true)∧(Q (za8 ((0:Int),(3:Int),blocks)))) ( s4 ∧( s2 ∧(((TY.chk (TY.arr EK.u64 4) (RC.get (RC.p 105 blocks) ( s5 ++ [(PE.f 4)])))=true)∧(zaf (addB (PV.vecv EK.u64 4 (RC.get (RC.p 105 blocks) ( s5 ++ [(PE.f 4)]))) (zbN h_1_Bits)) ( s4 ∧( s2 ∧( s6 ∧(((((List.length  s3 )*(160:Nat))≤(70368744177664:Nat))∧((List.length  s3 )≤(70368744177664:Nat)))∧(((PV.flats  s3 )=true)∧(Q (za8 ((w64 ((((List.length  s3 ):Nat):Int) - (1:Int))),(0:Int), s3 )))))))) ( s4 ∧( s2 ∧( s6 ∧(((((List.length  s1 )*(160:Nat))≤(70368744177664:Nat))∧((List.length  s1 )≤(70368744177664:Nat)))∧(((PV.flats  s1 )=true)∧(Q (za8 ((w64 ((((List.length  s1 ):Nat):Int) - (1:Int))),(0:Int), s1 ))))))))))))))))))):=by kernel_rfl
theorem zCS (blocks:List PV) (h_1_Prev:Vector UInt8 32) (h_1_Root:Vector UInt8 32) (h_1_Time:UInt32) (h_1_Bits:UInt32) (h_1_Nonce:UInt32) {r} {Q:CallOut→Prop} (h:ref28_Add blocks h_1_Prev h_1_Root h_1_Time h_1_Bits h_1_Nonce=some r) (hQ:Q (za8 r)):zac ztG zkf zsZ zkN zmB [.p 60000 [],.pv (.st [.arr .u8 32 h_1_Prev,.arr .u8 32 h_1_Root,.sc .u32 h_1_Time,.sc .u32 h_1_Bits,.sc .u32 h_1_Nonce])] [(60000,.box (.st [.o 60001])),(60001,.row (.p 105 blocks) false)] Q :=
 Eq.mpr (zCU blocks h_1_Prev h_1_Root h_1_Time h_1_Bits h_1_Nonce Q) (have h:=(ref28_Add.eq_1 blocks h_1_Prev h_1_Root h_1_Time h_1_Bits h_1_Nonce).symm.trans h; zad h fun hc0 h=>zab h (fun h=>zad h fun hc1 h=>zag (Q:=Q) (e:=za8) h hQ) (fun h=>⟨hc0,zab h (fun h=>zad h fun hc1 h=>zag (Q:=Q) (e:=za8) h hQ) (fun h=>zab h (fun h=>zad h fun hc1 h=>zag (Q:=Q) (e:=za8) h hQ) (fun h=>zab h (fun h=>zad h fun hc1 h=>zag (Q:=Q) (e:=za8) h hQ) (fun h=>zad h fun hc1 h=>zad h fun hc2 h=>zad h fun hc3 h=>zab h (fun h=>⟨hc1,⟨hc2,zad h fun hc4 h=>zad h fun hc5 h=>zad h fun hc6 h=>zag (Q:=Q) (e:=za8) h hQ⟩⟩) (fun h=>⟨hc1,⟨hc2,zad h fun hc4 h=>zad h fun hc5 h=>zad h fun hc6 h=>zag (Q:=Q) (e:=za8) h hQ⟩⟩))))⟩))
def zjv:Ans
 | [.p 60000 [],.pv (.st [.arr .u8 32 h_1_Prev,.arr .u8 32 h_1_Root,.sc .u32 h_1_Time,.sc .u32 h_1_Bits,.sc .u32 h_1_Nonce])],[(60000,.box (.st [.o 60001])),(60001,.row (.p 105 blocks) false)]=>some (some (rtC blocks),za8 (((zqR blocks h_1_Prev h_1_Root h_1_Time h_1_Bits h_1_Nonce).1,(zqR blocks h_1_Prev h_1_Root h_1_Time h_1_Bits h_1_Nonce).2.1,(zqR blocks h_1_Prev h_1_Root h_1_Time h_1_Bits h_1_Nonce).2.2)))
 | _,_=>none
theorem zxW:TblOK Tryd.prog theG znw:=.cons ⟨by kernel_rfl,znq⟩ (.cons ⟨by kernel_rfl,zwT⟩ (.cons ⟨by kernel_rfl,zoj⟩ (.cons ⟨by kernel_rfl,zqy⟩ (.cons ⟨by kernel_rfl,zmt⟩ (.cons ⟨by kernel_rfl,zkq⟩ (.nil))))))
theorem zAS:FnOK Tryd.prog theG 9 (unW zjv):=by
 refine FnOK.ofC (T:=znw) (nt:=95) (np:=1) (mv:=[1008606000000]) (nf:=false) (hs:=zkN) (fn:=Tryd.f9) (body:=zmB) zxW (by kernel_rfl) (by kernel_rfl) (by kernel_rfl) (by kernel_rfl) (c:=zjv) (lv:=zkf) ?_
 intro xs mem p out h hp
 unfold zjv at h
 split at h
 ·cases h
  exact zCS _ _ _ _ _ _ (zt2 _ _ _ _ _ _ hp) rfl
 ·cases h
end
end Go.Proofs.YtnolgfdjcipmmaaDoor.M
