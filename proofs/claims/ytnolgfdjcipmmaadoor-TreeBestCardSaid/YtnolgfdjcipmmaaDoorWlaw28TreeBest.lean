/- The statement of TreeBest: for every input the law returns true, and each argument reads behind the call as it read before. No condition. -/
import Derived.KernelRfl
import Derived.Test.YtnolgfdjcipmmaaDoorProg
import Derived.Test.YtnolgfdjcipmmaaDoorRows
import Derived.Test.YtnolgfdjcipmmaaDoorCards
import Derived.Test.YtnolgfdjcipmmaaDoorTie
import Derived.WalkKit
import Derived.ProofKit
import Derived.Handy
import Derived.Lay
import Derived.SizedLaws
import Derived.SevenTiedAt
import Derived.Test.YtnolgfdjcipmmaaDoorLe
import Derived.Test.YtnolgfdjcipmmaaDoorFtree
import Derived.Test.YtnolgfdjcipmmaaDoorFref28
import Derived.Test.YtnolgfdjcipmmaaDoorFref03
import Derived.Test.YtnolgfdjcipmmaaDoorFlaw28
import Derived.Test.YtnolgfdjcipmmaaDoorSwords
import Derived.Test.YtnolgfdjcipmmaaDoorSshaS
import Derived.Test.YtnolgfdjcipmmaaDoorSendS
import Derived.Test.YtnolgfdjcipmmaaDoorStarS
import Derived.Test.YtnolgfdjcipmmaaDoorSbigS
import Derived.Test.YtnolgfdjcipmmaaDoorStreS
import Derived.Test.YtnolgfdjcipmmaaDoorStreL
import Derived.Test.YtnolgfdjcipmmaaDoorSshaK
import Derived.Test.YtnolgfdjcipmmaaDoorStreF
import Derived.Test.YtnolgfdjcipmmaaDoorSKL
set_option linter.unusedVariables false
set_option linter.unusedSimpArgs false
set_option autoImplicit false
namespace Go.Proofs.YtnolgfdjcipmmaaDoor.M
open Go
noncomputable section
def law28_TreeBest_h2:Nat→Int→Int→(Vector UInt8 32)→(Vector UInt8 32)→(Vector UInt8 32)→UInt32→UInt32→UInt32→Int→UInt32→(Vector UInt64 4)→(List PV)→(List (PV × PV))→Option (Bool)
 | 0,_,_,_,_,_,_,_,_,_,_,_,_,_=>none
 | k+1,i,t,best,best1,best2,best3,best4,best5,best6,best7,best8,tm,tm'=>if tvC (TV.mk tm tm' t) then
   bif decide (
         i < (((List.length tm):Nat):Int)) then(bif eqb (!(decide ((bif(zdN tm i) then(0:Int) else(2:Int))=(0:Int)))) false then(bif eqb (bif false then true else(decide (i≤(KN.parent (zak tm i))))) false then(bif eqb (bif false then true else(subB best8 (KN.work (zak tm i)))) false then(bif eqb (decide (i < t)) true then(bif bif false then true else(bif true then(!(subB (KN.work (zak tm i)) best8))else false) then(some false)
         else(law28_TreeBest_h2 k (w64 (i+(1:Int))) t best best1 best2 best3 best4 best5 best6 best7 best8 tm tm'))
        else(law28_TreeBest_h2 k (w64 (i+(1:Int))) t best best1 best2 best3 best4 best5 best6 best7 best8 tm tm'))
       else(some false))
      else(some false))
     else(some false))
    else(some true)
  else none
def law28_TreeBest_h0:Nat→(List PV)→Int→Int→(List PV)→(List (PV × PV))→(List PV)→Option (Bool)
 | 0,_,_,_,_,_,_=>none
 | k+1,l,i,t,tm,tm',rm=>bif eqb (decide (i < (((List.length l):Nat):Int))) true then(bif bif true then(decide (i < (60:Int)))else false then(if(((0:Int)≤i)∧(i < (((List.length l):Nat):Int)))∧((TY.chk (TY.st  [(TY.st  [(TY.arr EK.u8 32),(TY.arr EK.u8 32),(TY.sc EK.u32),(TY.sc EK.u32),(TY.sc EK.u32)]),(TY.sc EK.i),(TY.sc EK.b),(TY.sc EK.b)]) (List.getD l (Int.toNat i) PV.nilp))=true) then
     if(
       UInt64.ofInt (
              ((
               List.length rm):Nat):Int))≠(0:UInt64) then
      if(
        (0:Int)≤(w64 (((UInt64.toNat ((UInt64.ofInt (PV.scv EK.i (PV.fld 1 (List.getD l (Int.toNat i) PV.nilp)))) % (UInt64.ofInt (((List.length rm):Nat):Int)))):Nat):Int)))∧((w64 (((UInt64.toNat ((UInt64.ofInt (PV.scv EK.i (PV.fld 1 (List.getD l (Int.toNat i) PV.nilp)))) % (UInt64.ofInt (((List.length rm):Nat):Int)))):Nat):Int)) < (((List.length rm):Nat):Int)) then
       if(
         TY.chk (
             TY.st  [(TY.arr EK.u8 32),(TY.st  [(TY.arr EK.u8 32),(TY.arr EK.u8 32),(TY.sc EK.u32),(TY.sc EK.u32),(TY.sc EK.u32)]),(TY.sc EK.i),(TY.sc EK.u32),(TY.arr EK.u64 4)]) (RC.get (RC.p 105 rm)  [(PE.i (Int.toNat (w64 (((UInt64.toNat ((UInt64.ofInt (PV.scv EK.i (PV.fld 1 (List.getD l (Int.toNat i) PV.nilp)))) % (UInt64.ofInt (((List.length rm):Nat):Int)))):Nat):Int))))]))=true then
        if(
          TY.chk (
              TY.arr EK.u8 32) (RC.get (RC.p 105 rm) ( [(PE.i (Int.toNat (w64 (((UInt64.toNat ((UInt64.ofInt (PV.scv EK.i (PV.fld 1 (List.getD l (Int.toNat i) PV.nilp)))) % (UInt64.ofInt (((List.length rm):Nat):Int)))):Nat):Int))))]++ [(PE.f 0)])))=true then
         if tvC (
             TV.mk tm tm' t) then
          if rtC rm then
           if tvC (
               Prod.snd (Prod.snd (zaE (TV.mk tm tm' t) (PV.vecv EK.u8 32 (RC.get (RC.p 105 rm) ( [(PE.i (Int.toNat (w64 (((UInt64.toNat ((UInt64.ofInt (PV.scv EK.i (PV.fld 1 (List.getD l (Int.toNat i) PV.nilp)))) % (UInt64.ofInt (((List.length rm):Nat):Int)))):Nat):Int))))]++ [(PE.f 0)]))) (PV.vecv EK.u8 32 (PV.fld 1 (PV.fld 0 (List.getD l (Int.toNat i) PV.nilp)))) (PV.scv EK.u32 (PV.fld 2 (PV.fld 0 (List.getD l (Int.toNat i) PV.nilp)))) (PV.scv EK.u32 (PV.fld 3 (PV.fld 0 (List.getD l (Int.toNat i) PV.nilp)))) (PV.scv EK.u32 (PV.fld 4 (PV.fld 0 (List.getD l (Int.toNat i) PV.nilp))))))) then
            bif eqb (!(decide ((TV.best (Prod.snd (Prod.snd (zaE (TV.mk tm tm' t) (PV.vecv EK.u8 32 (RC.get (RC.p 105 rm) ( [(PE.i (Int.toNat (w64 (((UInt64.toNat ((UInt64.ofInt (PV.scv EK.i (PV.fld 1 (List.getD l (Int.toNat i) PV.nilp)))) % (UInt64.ofInt (((List.length rm):Nat):Int)))):Nat):Int))))]++ [(PE.f 0)]))) (PV.vecv EK.u8 32 (PV.fld 1 (PV.fld 0 (List.getD l (Int.toNat i) PV.nilp)))) (PV.scv EK.u32 (PV.fld 2 (PV.fld 0 (List.getD l (Int.toNat i) PV.nilp)))) (PV.scv EK.u32 (PV.fld 3 (PV.fld 0 (List.getD l (Int.toNat i) PV.nilp)))) (PV.scv EK.u32 (PV.fld 4 (PV.fld 0 (List.getD l (Int.toNat i) PV.nilp))))))))=t))) true then(bif eqb (!(decide ((Prod.fst (Prod.snd (zaE (TV.mk tm tm' t) (PV.vecv EK.u8 32 (RC.get (RC.p 105 rm) ( [(PE.i (Int.toNat (w64 (((UInt64.toNat ((UInt64.ofInt (PV.scv EK.i (PV.fld 1 (List.getD l (Int.toNat i) PV.nilp)))) % (UInt64.ofInt (((List.length rm):Nat):Int)))):Nat):Int))))]++ [(PE.f 0)]))) (PV.vecv EK.u8 32 (PV.fld 1 (PV.fld 0 (List.getD l (Int.toNat i) PV.nilp)))) (PV.scv EK.u32 (PV.fld 2 (PV.fld 0 (List.getD l (Int.toNat i) PV.nilp)))) (PV.scv EK.u32 (PV.fld 3 (PV.fld 0 (List.getD l (Int.toNat i) PV.nilp)))) (PV.scv EK.u32 (PV.fld 4 (PV.fld 0 (List.getD l (Int.toNat i) PV.nilp)))))))=(0:Int)))) false then(bif bif true then(bif false then true else(!(decide ((TV.best (Prod.snd (Prod.snd (zaE (TV.mk tm tm' t) (PV.vecv EK.u8 32 (RC.get (RC.p 105 rm) ( [(PE.i (Int.toNat (w64 (((UInt64.toNat ((UInt64.ofInt (PV.scv EK.i (PV.fld 1 (List.getD l (Int.toNat i) PV.nilp)))) % (UInt64.ofInt (((List.length rm):Nat):Int)))):Nat):Int))))]++ [(PE.f 0)]))) (PV.vecv EK.u8 32 (PV.fld 1 (PV.fld 0 (List.getD l (Int.toNat i) PV.nilp)))) (PV.scv EK.u32 (PV.fld 2 (PV.fld 0 (List.getD l (Int.toNat i) PV.nilp)))) (PV.scv EK.u32 (PV.fld 3 (PV.fld 0 (List.getD l (Int.toNat i) PV.nilp)))) (PV.scv EK.u32 (PV.fld 4 (PV.fld 0 (List.getD l (Int.toNat i) PV.nilp))))))))=(Prod.fst (zaE (TV.mk tm tm' t) (PV.vecv EK.u8 32 (RC.get (RC.p 105 rm) ( [(PE.i (Int.toNat (w64 (((UInt64.toNat ((UInt64.ofInt (PV.scv EK.i (PV.fld 1 (List.getD l (Int.toNat i) PV.nilp)))) % (UInt64.ofInt (((List.length rm):Nat):Int)))):Nat):Int))))]++ [(PE.f 0)]))) (PV.vecv EK.u8 32 (PV.fld 1 (PV.fld 0 (List.getD l (Int.toNat i) PV.nilp)))) (PV.scv EK.u32 (PV.fld 2 (PV.fld 0 (List.getD l (Int.toNat i) PV.nilp)))) (PV.scv EK.u32 (PV.fld 3 (PV.fld 0 (List.getD l (Int.toNat i) PV.nilp)))) (PV.scv EK.u32 (PV.fld 4 (PV.fld 0 (List.getD l (Int.toNat i) PV.nilp))))))))))else false then(some false)
               else(law28_TreeBest_h0 k l (w64 (i+(1:Int))) (TV.best (Prod.snd (Prod.snd (zaE (TV.mk tm tm' t) (PV.vecv EK.u8 32 (RC.get (RC.p 105 rm) ( [(PE.i (Int.toNat (w64 (((UInt64.toNat ((UInt64.ofInt (PV.scv EK.i (PV.fld 1 (List.getD l (Int.toNat i) PV.nilp)))) % (UInt64.ofInt (((List.length rm):Nat):Int)))):Nat):Int))))]++ [(PE.f 0)]))) (PV.vecv EK.u8 32 (PV.fld 1 (PV.fld 0 (List.getD l (Int.toNat i) PV.nilp)))) (PV.scv EK.u32 (PV.fld 2 (PV.fld 0 (List.getD l (Int.toNat i) PV.nilp)))) (PV.scv EK.u32 (PV.fld 3 (PV.fld 0 (List.getD l (Int.toNat i) PV.nilp)))) (PV.scv EK.u32 (PV.fld 4 (PV.fld 0 (List.getD l (Int.toNat i) PV.nilp)))))))) (TV.blocks (Prod.snd (Prod.snd (zaE (TV.mk tm tm' t) (PV.vecv EK.u8 32 (RC.get (RC.p 105 rm) ( [(PE.i (Int.toNat (w64 (((UInt64.toNat ((UInt64.ofInt (PV.scv EK.i (PV.fld 1 (List.getD l (Int.toNat i) PV.nilp)))) % (UInt64.ofInt (((List.length rm):Nat):Int)))):Nat):Int))))]++ [(PE.f 0)]))) (PV.vecv EK.u8 32 (PV.fld 1 (PV.fld 0 (List.getD l (Int.toNat i) PV.nilp)))) (PV.scv EK.u32 (PV.fld 2 (PV.fld 0 (List.getD l (Int.toNat i) PV.nilp)))) (PV.scv EK.u32 (PV.fld 3 (PV.fld 0 (List.getD l (Int.toNat i) PV.nilp)))) (PV.scv EK.u32 (PV.fld 4 (PV.fld 0 (List.getD l (Int.toNat i) PV.nilp)))))))) (TV.ids (Prod.snd (Prod.snd (zaE (TV.mk tm tm' t) (PV.vecv EK.u8 32 (RC.get (RC.p 105 rm) ( [(PE.i (Int.toNat (w64 (((UInt64.toNat ((UInt64.ofInt (PV.scv EK.i (PV.fld 1 (List.getD l (Int.toNat i) PV.nilp)))) % (UInt64.ofInt (((List.length rm):Nat):Int)))):Nat):Int))))]++ [(PE.f 0)]))) (PV.vecv EK.u8 32 (PV.fld 1 (PV.fld 0 (List.getD l (Int.toNat i) PV.nilp)))) (PV.scv EK.u32 (PV.fld 2 (PV.fld 0 (List.getD l (Int.toNat i) PV.nilp)))) (PV.scv EK.u32 (PV.fld 3 (PV.fld 0 (List.getD l (Int.toNat i) PV.nilp)))) (PV.scv EK.u32 (PV.fld 4 (PV.fld 0 (List.getD l (Int.toNat i) PV.nilp)))))))) (Prod.snd (Prod.snd (zqR rm (PV.vecv EK.u8 32 (RC.get (RC.p 105 rm) ( [(PE.i (Int.toNat (w64 (((UInt64.toNat ((UInt64.ofInt (PV.scv EK.i (PV.fld 1 (List.getD l (Int.toNat i) PV.nilp)))) % (UInt64.ofInt (((List.length rm):Nat):Int)))):Nat):Int))))]++ [(PE.f 0)]))) (PV.vecv EK.u8 32 (PV.fld 1 (PV.fld 0 (List.getD l (Int.toNat i) PV.nilp)))) (PV.scv EK.u32 (PV.fld 2 (PV.fld 0 (List.getD l (Int.toNat i) PV.nilp)))) (PV.scv EK.u32 (PV.fld 3 (PV.fld 0 (List.getD l (Int.toNat i) PV.nilp)))) (PV.scv EK.u32 (PV.fld 4 (PV.fld 0 (List.getD l (Int.toNat i) PV.nilp)))))))))
              else(some false))
             else(law28_TreeBest_h0 k l (w64 (i+(1:Int))) (TV.best (Prod.snd (Prod.snd (zaE (TV.mk tm tm' t) (PV.vecv EK.u8 32 (RC.get (RC.p 105 rm) ( [(PE.i (Int.toNat (w64 (((UInt64.toNat ((UInt64.ofInt (PV.scv EK.i (PV.fld 1 (List.getD l (Int.toNat i) PV.nilp)))) % (UInt64.ofInt (((List.length rm):Nat):Int)))):Nat):Int))))]++ [(PE.f 0)]))) (PV.vecv EK.u8 32 (PV.fld 1 (PV.fld 0 (List.getD l (Int.toNat i) PV.nilp)))) (PV.scv EK.u32 (PV.fld 2 (PV.fld 0 (List.getD l (Int.toNat i) PV.nilp)))) (PV.scv EK.u32 (PV.fld 3 (PV.fld 0 (List.getD l (Int.toNat i) PV.nilp)))) (PV.scv EK.u32 (PV.fld 4 (PV.fld 0 (List.getD l (Int.toNat i) PV.nilp)))))))) (TV.blocks (Prod.snd (Prod.snd (zaE (TV.mk tm tm' t) (PV.vecv EK.u8 32 (RC.get (RC.p 105 rm) ( [(PE.i (Int.toNat (w64 (((UInt64.toNat ((UInt64.ofInt (PV.scv EK.i (PV.fld 1 (List.getD l (Int.toNat i) PV.nilp)))) % (UInt64.ofInt (((List.length rm):Nat):Int)))):Nat):Int))))]++ [(PE.f 0)]))) (PV.vecv EK.u8 32 (PV.fld 1 (PV.fld 0 (List.getD l (Int.toNat i) PV.nilp)))) (PV.scv EK.u32 (PV.fld 2 (PV.fld 0 (List.getD l (Int.toNat i) PV.nilp)))) (PV.scv EK.u32 (PV.fld 3 (PV.fld 0 (List.getD l (Int.toNat i) PV.nilp)))) (PV.scv EK.u32 (PV.fld 4 (PV.fld 0 (List.getD l (Int.toNat i) PV.nilp)))))))) (TV.ids (Prod.snd (Prod.snd (zaE (TV.mk tm tm' t) (PV.vecv EK.u8 32 (RC.get (RC.p 105 rm) ( [(PE.i (Int.toNat (w64 (((UInt64.toNat ((UInt64.ofInt (PV.scv EK.i (PV.fld 1 (List.getD l (Int.toNat i) PV.nilp)))) % (UInt64.ofInt (((List.length rm):Nat):Int)))):Nat):Int))))]++ [(PE.f 0)]))) (PV.vecv EK.u8 32 (PV.fld 1 (PV.fld 0 (List.getD l (Int.toNat i) PV.nilp)))) (PV.scv EK.u32 (PV.fld 2 (PV.fld 0 (List.getD l (Int.toNat i) PV.nilp)))) (PV.scv EK.u32 (PV.fld 3 (PV.fld 0 (List.getD l (Int.toNat i) PV.nilp)))) (PV.scv EK.u32 (PV.fld 4 (PV.fld 0 (List.getD l (Int.toNat i) PV.nilp)))))))) (Prod.snd (Prod.snd (zqR rm (PV.vecv EK.u8 32 (RC.get (RC.p 105 rm) ( [(PE.i (Int.toNat (w64 (((UInt64.toNat ((UInt64.ofInt (PV.scv EK.i (PV.fld 1 (List.getD l (Int.toNat i) PV.nilp)))) % (UInt64.ofInt (((List.length rm):Nat):Int)))):Nat):Int))))]++ [(PE.f 0)]))) (PV.vecv EK.u8 32 (PV.fld 1 (PV.fld 0 (List.getD l (Int.toNat i) PV.nilp)))) (PV.scv EK.u32 (PV.fld 2 (PV.fld 0 (List.getD l (Int.toNat i) PV.nilp)))) (PV.scv EK.u32 (PV.fld 3 (PV.fld 0 (List.getD l (Int.toNat i) PV.nilp)))) (PV.scv EK.u32 (PV.fld 4 (PV.fld 0 (List.getD l (Int.toNat i) PV.nilp))))))))
           else none
          else none
         else none
        else none
       else none
      else none
     else none
    else none)
    else(if tvC (TV.mk tm tm' t) then
     bif !(decide ((bif(zdN tm t) then(0:Int) else(2:Int))=(0:Int))) then(some false)
      else(law28_TreeBest_h2 k (0:Int) t (KN.id (zak tm t)) (KN.prev (zak tm t)) (KN.root (zak tm t)) (KN.time (zak tm t)) (KN.bits (zak tm t)) (KN.nonce (zak tm t)) (KN.parent (zak tm t)) (KN.height (zak tm t)) (KN.work (zak tm t)) tm tm')
    else none))
   else(if tvC (TV.mk tm tm' t) then
    bif !(decide ((bif(zdN tm t) then(0:Int) else(2:Int))=(0:Int))) then(some false)
     else(law28_TreeBest_h2 k (0:Int) t (KN.id (zak tm t)) (KN.prev (zak tm t)) (KN.root (zak tm t)) (KN.time (zak tm t)) (KN.bits (zak tm t)) (KN.nonce (zak tm t)) (KN.parent (zak tm t)) (KN.height (zak tm t)) (KN.work (zak tm t)) tm tm')
   else none)
def law28_TreeBest (k:Nat) (l:List PV):Option (Bool) :=
 law28_TreeBest_h0 k l (0:Int) (TV.best tvNew) (TV.blocks tvNew) (TV.ids tvNew) zGH
theorem zJr {ks:List KN} (ok:treeOK ks) (a1 a2 a3:Vector UInt8 32) (a4 a5 a6:UInt32) (a7:Int) (a8:UInt32):∀ (m i F:Nat),i+m=ks.length→m < F →
  law28_TreeBest_h2 F (i:Int) ((zaM ks:Nat):Int) a1 a2 a3 a4 a5 a6 a7 a8 (ks.getD (zaM ks) kn0).work (ks.map knPV) (za3 0 ks)=some true
 | _,_,0,_,h=>by omega
 | m,i,F+1,hm,hF=>by
  have hC:tvC (TV.mk (ks.map knPV) (za3 0 ks) ((zaM ks:Nat):Int)):=tv_c ok
  have hlen:=ok.len
  rw[law28_TreeBest_h2.eq_2,if_pos hC,List.length_map]
  by_cases hi:i < ks.length
  ·have hmx:=zHv hi
   have hpar:¬ ((i:Nat):Int)≤(ks.getD i kn0).parent:=by
    have:=ok.par i hi
    by_cases h0:i=0
    ·have:=this.1 h0; omega
    ·have:=(this.2 (by omega)).2; omega
   rw[decide_eq_true (show ((i:Nat):Int) < ((ks.length:Nat):Int) by omega),zGt hi,zDK hi,decide_eq_false hpar,hmx,zaj (by omega) (by omega),show ((i:Nat):Int)+1=((i+1:Nat):Int) by omega]
   have ih:law28_TreeBest_h2 F ((i+1:Nat):Int) ((zaM ks:Nat):Int) a1 a2 a3 a4 a5 a6 a7 a8 (ks.getD (zaM ks) kn0).work (ks.map knPV) (za3 0 ks)=some true:=by
    cases m with
    | zero=>omega
    | succ m=>exact zJr ok a1 a2 a3 a4 a5 a6 a7 a8 m (i+1) F (by omega) (by omega)
   rw[ih]
   by_cases hb:i < zaM ks
   ·rw[zFE ok.ne hb,decide_eq_true (show ((i:Nat):Int) < ((zaM ks:Nat):Int) by omega)]
    rfl
   ·rw[decide_eq_false (show ¬ ((i:Nat):Int) < ((zaM ks:Nat):Int) by omega)]
    rfl
  ·rw[decide_eq_false (show ¬ ((i:Nat):Int) < ((ks.length:Nat):Int) by omega)]
   rfl
theorem zJl {ks:List KN} (ok:treeOK ks) (F:Nat) (hF:ks.length < F):(if tvC (TV.mk (ks.map knPV) (za3 0 ks) ((zaM ks:Nat):Int)) then
     bif !(decide ((bif(zdN (ks.map knPV) ((zaM ks:Nat):Int)) then(0:Int) else(2:Int))=(0:Int))) then(some false)
      else(law28_TreeBest_h2 F (0:Int) ((zaM ks:Nat):Int) (KN.id (zak (ks.map knPV) ((zaM ks:Nat):Int))) (KN.prev (zak (ks.map knPV) ((zaM ks:Nat):Int))) (KN.root (zak (ks.map knPV) ((zaM ks:Nat):Int))) (KN.time (zak (ks.map knPV) ((zaM ks:Nat):Int))) (KN.bits (zak (ks.map knPV) ((zaM ks:Nat):Int))) (KN.nonce (zak (ks.map knPV) ((zaM ks:Nat):Int))) (KN.parent (zak (ks.map knPV) ((zaM ks:Nat):Int))) (KN.height (zak (ks.map knPV) ((zaM ks:Nat):Int))) (KN.work (zak (ks.map knPV) ((zaM ks:Nat):Int))) (ks.map knPV) (za3 0 ks))
    else none)=some true:=by
 have hC:tvC (TV.mk (ks.map knPV) (za3 0 ks) ((zaM ks:Nat):Int)):=tv_c ok
 have hb:=zok ok.ne
 rw[if_pos hC,zGt hb,zDK hb]
 exact zJr ok _ _ _ _ _ _ _ _ ks.length 0 F (by omega) hF
set_option maxHeartbeats 0 in
theorem zJD (l:List PV) (hl:zAO l=true):∀ (m i:Nat) (ks:List KN),i+m=60→treeOK ks →
  law28_TreeBest_h0 (m+202) l (i:Int) ((zaM ks:Nat):Int) (ks.map knPV) (za3 0 ks) (ks.map knPV)=some true
 | m,i,ks,hm,ok=>by
  have hlen:=ok.len
  have hF:=zJl ok (m+201) (by omega)
  rw[law28_TreeBest_h0.eq_2]
  by_cases hi:i < l.length
  ·rw[decide_eq_true (show ((i:Nat):Int) < ((l.length:Nat):Int) by omega)]
   by_cases hi2:i < 60
   ·cases m with
    | zero=>omega
    | succ m =>
    rw[decide_eq_true (show ((i:Nat):Int) < 60 by omega),List.length_map]
    obtain ⟨hne,j,hj,ej⟩:=zJS (List.length_pos_iff.2 ok.ne) hlen (UInt64.ofInt (PV.scv EK.i (PV.fld 1 (List.getD l (Int.toNat (i:Int)) PV.nilp))))
    simp only[show eqb true true=true from rfl,cond_true]
    rw[if_pos (show ((0:Int)≤((i:Nat):Int)∧((i:Nat):Int) < ((l.length:Nat):Int))∧TY.chk (TY.st [TY.st [TY.arr EK.u8 32,TY.arr EK.u8 32,TY.sc EK.u32,TY.sc EK.u32,TY.sc EK.u32],TY.sc EK.i,TY.sc EK.b,TY.sc EK.b]) (List.getD l (Int.toNat (i:Int)) PV.nilp)=true from ⟨⟨by omega,by omega⟩,zGA hl hi⟩),if_pos hne]
    simp only[ej]
    generalize PV.vecv EK.u8 32 (PV.fld 1 (PV.fld 0 (List.getD l (Int.toNat (i:Int)) PV.nilp)))=r
    generalize PV.scv EK.u32 (PV.fld 2 (PV.fld 0 (List.getD l (Int.toNat (i:Int)) PV.nilp)))=t
    generalize PV.scv EK.u32 (PV.fld 3 (PV.fld 0 (List.getD l (Int.toNat (i:Int)) PV.nilp)))=b
    generalize PV.scv EK.u32 (PV.fld 4 (PV.fld 0 (List.getD l (Int.toNat (i:Int)) PV.nilp)))=n
    rw[if_pos (show (0:Int)≤(j:Int)∧(j:Int) < ((ks.length:Nat):Int) by omega)]
    simp only[Int.toNat_natCast,zBW hj,zIv hj,zlK]
    rw[if_pos (show TY.chk (TY.st [TY.arr EK.u8 32,TY.st [TY.arr EK.u8 32,TY.arr EK.u8 32,TY.sc EK.u32,TY.sc EK.u32,TY.sc EK.u32],TY.sc EK.i,TY.sc EK.u32,TY.arr EK.u64 4]) (knPV (ks.getD j kn0))=true from rfl),if_pos (show TY.chk (TY.arr EK.u8 32) (PV.arr EK.u8 32 (ks.getD j kn0).id)=true from rfl)]
    generalize (ks.getD j kn0).id=p
    have e0:TV.mk (ks.map knPV) (za3 0 ks) ((zaM ks:Nat):Int)=tvOf ks:=rfl
    rw[e0,zrl,zHI,if_pos (tv_c ok),if_pos (rt_c ok),if_pos (tv_c (zBM ok p r t b n)),zaj (by omega) (by omega),show ((i:Nat):Int)+1=((i+1:Nat):Int) by omega]
    have ih:=zJD l hl m (i+1) (tAdd ks p r t b n).2.2 (by omega) (zBM ok p r t b n)
    have ih':law28_TreeBest_h0 (m+1+201) l ((i+1:Nat):Int) (tvOf (tAdd ks p r t b n).2.2).best (tvOf (tAdd ks p r t b n).2.2).blocks (tvOf (tAdd ks p r t b n).2.2).ids ((tAdd ks p r t b n).2.2.map knPV)=some true:=by
     rw[show m+1+201=m+202 by omega]; exact ih
    rw[ih']
    rcases zvi ks p r t b n with ⟨e,he,h⟩ | ⟨q,hq,hq2,h⟩
    ·rw[h]
     show (bif eqb (!decide (((zaM ks:Nat):Int)=((zaM ks:Nat):Int))) true then _ else _)=_
     rw[decide_eq_true rfl]
     rfl
    ·rw[h]
     show (bif eqb (!decide (((zaM (ks++[zdF ks q p r t b n]):Nat):Int)=((zaM ks:Nat):Int))) true then(bif _ then(bif bif true then(bif false then true else(!decide (((zaM (ks++[zdF ks q p r t b n]):Nat):Int)=((ks.length:Nat):Int))))else false then _ else _)else _)else _)=_
     by_cases hs:zaM (ks++[zdF ks q p r t b n])=zaM ks
     ·rw[hs,decide_eq_true rfl]
      rfl
     ·have hb:=zjD ok.ne (zdF ks q p r t b n)
      have:zaM (ks++[zdF ks q p r t b n])=ks.length:=by
       by_cases hz:subB (ks.getD (zaM ks) kn0).work (zdF ks q p r t b n).work=true
       ·rw[hb,if_pos hz]
       ·rw[if_neg hz]at hb; exact absurd hb hs
      rw[decide_eq_false (show ¬ ((zaM (ks++[zdF ks q p r t b n]):Nat):Int)=((zaM ks:Nat):Int) by omega),decide_eq_true (show ((zaM (ks++[zdF ks q p r t b n]):Nat):Int)=((ks.length:Nat):Int) by omega)]
      rfl
   ·rw[decide_eq_false (show ¬ ((i:Nat):Int) < 60 by omega)]
    exact hF
  ·rw[decide_eq_false (show ¬ ((i:Nat):Int) < ((l.length:Nat):Int) by omega)]
   exact hF
theorem znp (l:List PV) (hp:zAO l=true):∃ k,law28_TreeBest k l=some true:=by
 refine ⟨60+202,?_⟩
 have e:tvNew.best=((zaM [knBegin]:Nat):Int):=by rw[zlU]; rfl
 have e1:tvNew.blocks=[knBegin].map knPV:=by rw[zlU]; rfl
 have e2:tvNew.ids=za3 0 [knBegin]:=by rw[zlU]; rfl
 rw[law28_TreeBest.eq_1,zDE,e,e1,e2]
 exact zJD l hp 60 0 [knBegin] rfl zwm
end
end Go.Proofs.YtnolgfdjcipmmaaDoor.M
namespace Go.Proofs.YtnolgfdjcipmmaaDoor.M
open Go
noncomputable section
set_option maxRecDepth 100000
set_option maxHeartbeats 0
noncomputable def zgp:Tbl:=[(5,[],ziC),(6,[],ziY),(7,[true],zhb),(8,[true,false],ziq),(9,[true,false],zjv),(10,[true,false],zhH),(11,[true],zif),(12,[],zf2),(13,[],zgx)]
noncomputable def zam:CfgW:=mkC Tryd.prog theG zgp 133 0 false
def zaH:Nat→List Nat:=fun i=>bif Nat.beq i 2 then [3,10,12]else bif Nat.beq i 0 then [0,3,4,5]else []
noncomputable abbrev zaQ:Code:=Tryd.f3.body.getD .skip
noncomputable abbrev zaT:List ResultVar:=Tryd.f3.results.toList
def zaG:List Nat:=[]
def zai (r:Bool):CallOut:=⟨.pv (.sc .b r),[],true,[]⟩
def zcZ (l:List PV) (i:Int) (t:Int) (tm:List PV) (tm':List (PV × PV)) (rm:List PV):St:=⟨[(0,.pv (.sp 70 l)),(3,.p 60000 []),(4,.p 60001 []),(5,.pv (.sc .i i))],[(60000,.box (.st [.o 60002,.o 60003,.pv (.sc .i t)])),(60001,.box (.st [.o 60004])),(60002,.row (.p 105 tm) false),(60003,.map tm'),(60004,.row (.p 105 rm) false)]⟩
def zcm (i:Int) (t:Int) (best:Vector UInt8 32) (best1:Vector UInt8 32) (best2:Vector UInt8 32) (best3:UInt32) (best4:UInt32) (best5:UInt32) (best6:Int) (best7:UInt32) (best8:Vector UInt64 4) (tm:List PV) (tm':List (PV × PV)):St:=⟨[(3,.p 60000 []),(10,.p 60001 []),(12,.pv (.sc .i i))],[(60000,.box (.st [.o 60002,.o 60003,.pv (.sc .i t)])),(60001,.box (.pv (.st [.arr .u8 32 best,.st [.arr .u8 32 best1,.arr .u8 32 best2,.sc .u32 best3,.sc .u32 best4,.sc .u32 best5],.sc .i best6,.sc .u32 best7,.arr .u64 4 best8]))),(60002,.row (.p 105 tm) false),(60003,.map tm')]⟩
theorem zpn (l:List PV) (i:Int) (t:Int) (tm:List PV) (tm':List (PV × PV)) (rm:List PV) (Q:CallOut→Prop):zas zam zaH [true,true,true,false,true,false] zaQ (zcZ l i t tm tm' rm) (fnK zam zaT zaG Q) =
 (let s0:=(zaE (TV.mk tm tm' t) (PV.vecv EK.u8 32 (RC.get (RC.p 105 rm) ( [(PE.i (Int.toNat (w64 (((UInt64.toNat ((UInt64.ofInt (PV.scv EK.i (PV.fld 1 (List.getD l (Int.toNat i) PV.nilp)))) % (UInt64.ofInt (((List.length rm):Nat):Int)))):Nat):Int))))]++ [(PE.f 0)]))) (PV.vecv EK.u8 32 (PV.fld 1 (PV.fld 0 (List.getD l (Int.toNat i) PV.nilp)))) (PV.scv EK.u32 (PV.fld 2 (PV.fld 0 (List.getD l (Int.toNat i) PV.nilp)))) (PV.scv EK.u32 (PV.fld 3 (PV.fld 0 (List.getD l (Int.toNat i) PV.nilp)))) (PV.scv EK.u32 (PV.fld 4 (PV.fld 0 (List.getD l (Int.toNat i) PV.nilp)))));let s1:=(zah zam zaH [true,true,true,false,true,false] zaQ (zcZ l (w64 (i+(1:Int))) (TV.best (Prod.snd (Prod.snd  s0 ))) (TV.blocks (Prod.snd (Prod.snd  s0 ))) (TV.ids (Prod.snd (Prod.snd  s0 ))) (Prod.snd (Prod.snd (zqR rm (PV.vecv EK.u8 32 (RC.get (RC.p 105 rm) ( [(PE.i (Int.toNat (w64 (((UInt64.toNat ((UInt64.ofInt (PV.scv EK.i (PV.fld 1 (List.getD l (Int.toNat i) PV.nilp)))) % (UInt64.ofInt (((List.length rm):Nat):Int)))):Nat):Int))))]++ [(PE.f 0)]))) (PV.vecv EK.u8 32 (PV.fld 1 (PV.fld 0 (List.getD l (Int.toNat i) PV.nilp)))) (PV.scv EK.u32 (PV.fld 2 (PV.fld 0 (List.getD l (Int.toNat i) PV.nilp)))) (PV.scv EK.u32 (PV.fld 3 (PV.fld 0 (List.getD l (Int.toNat i) PV.nilp)))) (PV.scv EK.u32 (PV.fld 4 (PV.fld 0 (List.getD l (Int.toNat i) PV.nilp)))))))) (fnK zam zaT zaG Q));let s2:=(w64 (((UInt64.toNat ((UInt64.ofInt (PV.scv EK.i (PV.fld 1 (List.getD l (Int.toNat i) PV.nilp)))) % (UInt64.ofInt (((List.length rm):Nat):Int)))):Nat):Int));let s3:=((tvC (TV.mk tm tm' t))∧((tvC (TV.mk tm tm' t))∧(zaf (!(decide ((bif(zdN tm t) then(0:Int) else(2:Int))=(0:Int)))) (Q (zai false)) (zah zam zaH [true,true,true,true,true,true,false,true,false] zaQ (zcm (0:Int) t (KN.id (zak tm t)) (KN.prev (zak tm t)) (KN.root (zak tm t)) (KN.time (zak tm t)) (KN.bits (zak tm t)) (KN.nonce (zak tm t)) (KN.parent (zak tm t)) (KN.height (zak tm t)) (KN.work (zak tm t)) tm tm') (fnK zam zaT zaG Q)))));let s4:=((((0:Int)≤i)∧(i < (((List.length l):Nat):Int)))∧((TY.chk (TY.st  [(TY.st  [(TY.arr EK.u8 32),(TY.arr EK.u8 32),(TY.sc EK.u32),(TY.sc EK.u32),(TY.sc EK.u32)]),(TY.sc EK.i),(TY.sc EK.b),(TY.sc EK.b)]) (List.getD l (Int.toNat i) PV.nilp))=true));(zaf (eqb (decide (i < (((List.length l):Nat):Int))) true) (zaf (bif true then(decide (i < (60:Int)))else false) ( s4 ∧( s4 ∧(((UInt64.ofInt (((List.length rm):Nat):Int))≠(0:UInt64))∧((((0:Int)≤ s2 )∧( s2  < (((List.length rm):Nat):Int)))∧(((TY.chk (TY.st  [(TY.arr EK.u8 32),(TY.st  [(TY.arr EK.u8 32),(TY.arr EK.u8 32),(TY.sc EK.u32),(TY.sc EK.u32),(TY.sc EK.u32)]),(TY.sc EK.i),(TY.sc EK.u32),(TY.arr EK.u64 4)]) (RC.get (RC.p 105 rm)  [(PE.i (Int.toNat  s2 ))]))=true)∧(((TY.chk (TY.arr EK.u8 32) (RC.get (RC.p 105 rm) ( [(PE.i (Int.toNat  s2 ))]++ [(PE.f 0)])))=true)∧((tvC (TV.mk tm tm' t))∧((tvC (TV.mk tm tm' t))∧((rtC rm)∧((tvC (Prod.snd (Prod.snd  s0 )))∧(zaf (eqb (!(decide ((TV.best (Prod.snd (Prod.snd  s0 )))=t))) true) (zaf (eqb (!(decide ((Prod.fst (Prod.snd  s0 ))=(0:Int)))) false) ((tvC (Prod.snd (Prod.snd  s0 )))∧(zaf (bif true then(bif false then true else(!(decide ((TV.best (Prod.snd (Prod.snd  s0 )))=(Prod.fst  s0 )))))else false) (Q (zai false))  s1 )) (Q (zai false)))  s1 )))))))))))  s3 )  s3 )):=by kernel_rfl
theorem zo0 (i:Int) (t:Int) (best:Vector UInt8 32) (best1:Vector UInt8 32) (best2:Vector UInt8 32) (best3:UInt32) (best4:UInt32) (best5:UInt32) (best6:Int) (best7:UInt32) (best8:Vector UInt64 4) (tm:List PV) (tm':List (PV × PV)) (Q:CallOut→Prop):zas zam zaH [true,true,true,true,true,true,false,true,false] zaQ (zcm i t best best1 best2 best3 best4 best5 best6 best7 best8 tm tm') (fnK zam zaT zaG Q) =
 (let s0:=(zah zam zaH [true,true,true,true,true,true,false,true,false] zaQ (zcm (w64 (i+(1:Int))) t best best1 best2 best3 best4 best5 best6 best7 best8 tm tm') (fnK zam zaT zaG Q));((tvC (TV.mk tm tm' t))∧(zaf (decide (i < (((List.length tm):Nat):Int))) ((tvC (TV.mk tm tm' t))∧(zaf (eqb (!(decide ((bif(zdN tm i) then(0:Int) else(2:Int))=(0:Int)))) false) (zaf (eqb (bif false then true else(decide (i≤(KN.parent (zak tm i))))) false) (zaf (eqb (bif false then true else(subB best8 (KN.work (zak tm i)))) false) ((tvC (TV.mk tm tm' t))∧(zaf (eqb (decide (i < t)) true) (zaf (bif false then true else(bif true then(!(subB (KN.work (zak tm i)) best8))else false)) (Q (zai false))  s0 )  s0 )) (Q (zai false))) (Q (zai false))) (Q (zai false)))) (Q (zai true))))):=by kernel_rfl
theorem zd4 {r:Bool} {Q:CallOut→Prop} (hQ:Q (zai r)):∀ k:Nat,(∀ (i:Int) (t:Int) (best:Vector UInt8 32) (best1:Vector UInt8 32) (best2:Vector UInt8 32) (best3:UInt32) (best4:UInt32) (best5:UInt32) (best6:Int) (best7:UInt32) (best8:Vector UInt64 4) (tm:List PV) (tm':List (PV × PV)),law28_TreeBest_h2 k i t best best1 best2 best3 best4 best5 best6 best7 best8 tm tm'=some r→zah zam zaH [true,true,true,true,true,true,false,true,false] zaQ (zcm i t best best1 best2 best3 best4 best5 best6 best7 best8 tm tm') (fnK zam zaT zaG Q))
 | 0=>fun _ _ _ _ _ _ _ _ _ _ _ _ _ h=>zb9 h
 | k+1=>fun i t best best1 best2 best3 best4 best5 best6 best7 best8 tm tm' h=>zal (Eq.mpr (zo0 i t best best1 best2 best3 best4 best5 best6 best7 best8 tm tm' Q) (have h:=(law28_TreeBest_h2.eq_2 i t best best1 best2 best3 best4 best5 best6 best7 best8 tm tm' k).symm.trans h; zad h fun hc0 h=>zab h (fun h=>⟨hc0,zab h (fun h=>zab h (fun h=>zab h (fun h=>⟨hc0,zab h (fun h=>zab h (fun h=>zag (Q:=Q) (e:=zai) h hQ) (fun h=>(zd4 hQ k) _ _ _ _ _ _ _ _ _ _ _ _ _ h)) (fun h=>(zd4 hQ k) _ _ _ _ _ _ _ _ _ _ _ _ _ h)⟩) (fun h=>zag (Q:=Q) (e:=zai) h hQ)) (fun h=>zag (Q:=Q) (e:=zai) h hQ)) (fun h=>zag (Q:=Q) (e:=zai) h hQ)⟩) (fun h=>zag (Q:=Q) (e:=zai) h hQ)))
theorem zfj {r:Bool} {Q:CallOut→Prop} (hQ:Q (zai r)):∀ k:Nat,(∀ (l:List PV) (i:Int) (t:Int) (tm:List PV) (tm':List (PV × PV)) (rm:List PV),law28_TreeBest_h0 k l i t tm tm' rm=some r→zah zam zaH [true,true,true,false,true,false] zaQ (zcZ l i t tm tm' rm) (fnK zam zaT zaG Q))
 | 0=>fun _ _ _ _ _ _ h=>zb9 h
 | k+1=>fun l i t tm tm' rm h=>zal (Eq.mpr (zpn l i t tm tm' rm Q) (have h:=(law28_TreeBest_h0.eq_2 l i t tm tm' rm k).symm.trans h; zab h (fun h=>zab h (fun h=>zad h fun hc0 h=>⟨hc0,zad h fun hc1 h=>zad h fun hc2 h=>zad h fun hc3 h=>zad h fun hc4 h=>zad h fun hc5 h=>⟨hc5,zad h fun hc6 h=>zad h fun hc7 h=>zab h (fun h=>zab h (fun h=>⟨hc7,zab h (fun h=>zag (Q:=Q) (e:=zai) h hQ) (fun h=>(zfj hQ k) _ _ _ _ _ _ h)⟩) (fun h=>zag (Q:=Q) (e:=zai) h hQ)) (fun h=>(zfj hQ k) _ _ _ _ _ _ h)⟩⟩) (fun h=>zad h fun hc0 h=>⟨hc0,zab h (fun h=>zag (Q:=Q) (e:=zai) h hQ) (fun h=>(zd4 hQ _) _ _ _ _ _ _ _ _ _ _ _ _ _ h)⟩)) (fun h=>zad h fun hc0 h=>⟨hc0,zab h (fun h=>zag (Q:=Q) (e:=zai) h hQ) (fun h=>(zd4 hQ _) _ _ _ _ _ _ _ _ _ _ _ _ _ h)⟩)))
theorem zq9 (l:List PV) (Q:CallOut→Prop):zac zam zaH zaT zaG zaQ [.pv (.sp 70 l)] [] Q =
  (zah zam zaH [true,true,true,false,true,false] zaQ (zcZ l (0:Int) (TV.best tvNew) (TV.blocks tvNew) (TV.ids tvNew) zGH) (fnK zam zaT zaG Q)):=by kernel_rfl
theorem zqL {k:Nat} (l:List PV) {r} {Q:CallOut→Prop} (h:law28_TreeBest k l=some r) (hQ:Q (zai r)):zac zam zaH zaT zaG zaQ [.pv (.sp 70 l)] [] Q :=
 Eq.mpr (zq9 l Q) (have h:=(law28_TreeBest.eq_1 k l).symm.trans h; (zfj hQ _) _ _ _ _ _ _ h)
def law28_TreeBest_c:Ans
 | [.pv (.sp 70 l)],[]=>some (some (zAO l=true),zai (true))
 | _,_=>none
theorem zoo:TblOK Tryd.prog theG zgp:=.cons ⟨by kernel_rfl,zr7⟩ (.cons ⟨by kernel_rfl,zAF⟩ (.cons ⟨by kernel_rfl,zqf⟩ (.cons ⟨by kernel_rfl,zsL⟩ (.cons ⟨by kernel_rfl,zAS⟩ (.cons ⟨by kernel_rfl,zxt⟩ (.cons ⟨by kernel_rfl,zr1⟩ (.cons ⟨by kernel_rfl,zoO⟩ (.cons ⟨by kernel_rfl,zt9⟩ (.nil)))))))))
theorem law28_TreeBest_ok:FnOK Tryd.prog theG 3 (unW law28_TreeBest_c):=by
 refine FnOK.ofC (T:=zgp) (nt:=133) (np:=0) (mv:=[]) (nf:=false) (hs:=zaG) (fn:=Tryd.f3) (body:=zaQ) zoo (by kernel_rfl) (by kernel_rfl) (by kernel_rfl) (by kernel_rfl) (c:=law28_TreeBest_c) (lv:=zaH) ?_
 intro xs mem p out h hp
 unfold law28_TreeBest_c at h
 split at h
 ·cases h
  obtain ⟨k,hk⟩:=znp _ hp
  exact zqL _ hk rfl
 ·cases h
end
end Go.Proofs.YtnolgfdjcipmmaaDoor.M
namespace Go.Proofs.YtnolgfdjcipmmaaDoor
open Go Go.ChangeShapes Go.WideShapes Go.ChangeAt Go.RowKit
open Go.Proofs.YtnolgfdjcipmmaaDoor
theorem law28_TreeBest_own : ownKnob Tryd.prog.godebug = none := by kernel_rfl
theorem law28_TreeBest_law : ∀ ys : List M.PV, M.FitL [.sp 70 (.st [.st [.arr .u8 32, .arr .u8 32, .sc .u32, .sc .u32, .sc .u32], .sc .i, .sc .b, .sc .b])] ys → ∃ p out, M.law28_TreeBest_c (ys.map .pv) [] = some (p, out) ∧ p.h ∧ out.val = .pv (.sc .b true) := by
  rintro ys ⟨_, _, rfl, ⟨x0, rfl, hx0, lx0⟩, rfl⟩
  exact ⟨_, _, rfl, M.treesW_fit hx0, rfl⟩
set_option maxRecDepth 100000 in
theorem zka (os : Os) (started : os.Started) (H : Type) (enc : TypeId × Value → H) :
    ReturnsInHanded {} Tryd.checked os 3 .any (fun w args => (Rows.treeBestSpec.pre enc Tryd.prog Tryd.f3 [] false w args ∧ laidMetH Tryd.prog Rows.treeBestRow.laid w) ∧ sizedMet enc Tryd.prog Tryd.f3 (OpenSpec.ofChange Rows.treeBestSpec) false w args)
      (Rows.treeBestSpec.post enc Tryd.prog Tryd.f3 false true false false) := by
  refine returnsInHanded_of_change_and (C := Tryd.checked) (X := fun w _ => laidMetH Tryd.prog Rows.treeBestRow.laid w) (fun _ _ _ hh h => h.of_heap hh) law28_TreeBest_own started (by kernel_rfl) (by kernel_rfl)
    (ChangeSpec.witness_shaped (enc := enc) (C := Tryd.checked) (os := os) (X := fun w _ => laidMetH Tryd.prog Rows.treeBestRow.laid w) false (World.laidAll Tryd.prog os Rows.treeBestRow.laid) #[.slice none 0 0] 8 (World.laidAll_os _ _ _)
      (World.shaped_of_ZipB (by kernel_rfl) (by kernel_rfl)) (by kernel_rfl) (by kernel_rfl) (by kernel_rfl)
      (by rw [MakeChecks.laidMetH_plain _ _ _ (by kernel_rfl)]; exact laidMet_laidAll _ (by kernel_rfl) (by kernel_rfl))) ?_
  intro W base args ds gs before hval hW _ hsz hL _
  exact M.law_contract (ss := [.sp 70 (.st [.st [.arr .u8 32, .arr .u8 32, .sc .u32, .sc .u32, .sc .u32], .sc .i, .sc .b, .sc .b])]) (G := M.theG) (c := M.law28_TreeBest_c) (tb := 4) rfl (fun ds h => by
      match ds, h with
      | [d0], _ => rfl) (by kernel_rfl) (by kernel_rfl) (by kernel_rfl) (by kernel_rfl) (by kernel_rfl) M.law28_TreeBest_ok law28_TreeBest_law hval hW hsz (M.globs (by rwa [MakeChecks.laidMetH_plain _ _ _ (by kernel_rfl)] at hL))
theorem treeBest_row : Rows.TreeBestSaid :=
  OpenClaim.holds_of_wide 3 Tryd.f3 rfl rfl rfl rfl rfl rfl rfl ⟨rfl, rfl, rfl, rfl, rfl⟩ rfl rfl rfl rfl rfl (by kernel_rfl) (by kernel_rfl) (by kernel_rfl)
    (of_decide_eq_true (by kernel_rfl)) (by unfold Func.isWrapper; first | (rw [if_pos (by decide +kernel)]; kernel_rfl) | (rw [if_neg (by decide +kernel)]; exact ⟨rfl, rfl⟩))
    (fun os started H enc _ => zka os started H enc)
theorem treeBest_card : Rows.TreeBestCardSaid :=
  Claim7.holds_tied_plain_at .later [] [.data] true (true, "8e4088b64b8e26df6e7d866a397ff3a1a07d139fc97da5e262e2ed5c6b2be50c") true treeBest_row (fun _ h => by cases h) (by kernel_rfl) (fun _ h => by cases h) treeBest_row_tie rfl ⟨rfl, rfl⟩ (by kernel_rfl) rfl
    (fun f fn hf hfn => by
      obtain rfl : f = 3 := Option.some.inj ((show Tryd.prog.funcNamed "moneyer/moneyerlaw28.TreeBest" = some 3 by kernel_rfl).symm.trans hf) |>.symm
      obtain rfl : fn = Tryd.f3 := (Option.some.inj ((show Tryd.prog.funcs[3]? = some Tryd.f3 by kernel_rfl).symm.trans hfn)).symm
      exact ⟨by kernel_rfl, fun j t ht => by
        have hp : Tryd.f3.params = #[22] := by kernel_rfl
        rw [hp] at ht
        have hm : t ∈ [22] := by simpa using Array.mem_of_getElem? ht
        have hall : ([22].all fun u => !Tryd.prog.wantsStandIn u) = true := by kernel_rfl
        exact (show Tryd.prog.wantsStandIn t = false by simpa using List.all_eq_true.1 hall t hm)⟩)
    (by kernel_rfl)
#print axioms treeBest_card
end Go.Proofs.YtnolgfdjcipmmaaDoor
