/- Part of the proofs: what functions of the program do: plain functions, and the walks that show it. No condition. -/
import Derived.KernelRfl
import Derived.Test.YtnolgfdjcipmmaaDoorProg
import Derived.Test.YtnolgfdjcipmmaaDoorLe
import Derived.Test.YtnolgfdjcipmmaaDoorFtree
import Derived.Test.YtnolgfdjcipmmaaDoorFref08
import Derived.Test.YtnolgfdjcipmmaaDoorSwords
import Derived.Test.YtnolgfdjcipmmaaDoorSshaS
import Derived.Test.YtnolgfdjcipmmaaDoorSendS
import Derived.Test.YtnolgfdjcipmmaaDoorStarS
import Derived.Test.YtnolgfdjcipmmaaDoorSbigS
import Derived.Test.YtnolgfdjcipmmaaDoorStreS
import Derived.Test.YtnolgfdjcipmmaaDoorStreL
import Derived.Test.YtnolgfdjcipmmaaDoorSshaK
set_option linter.unusedVariables false
set_option linter.unusedSimpArgs false
set_option autoImplicit false
namespace Go.Proofs.YtnolgfdjcipmmaaDoor.M
open Go
noncomputable section
def law28_lives  : Option (Bool) :=
  if tvC tvNew then
    if tvC (
            Prod.snd (
                      Prod.snd (zaH tvNew (idV (Vector.replicate 32 (0:UInt8)) (Vector.replicate 32 (0:UInt8)) (0:UInt32) (545259519:UInt32) (0:UInt32)) (Vector.replicate 32 (0:UInt8)) (0:UInt32) (545259519:UInt32) (0:UInt32)))) then
      if tvC (
              Prod.snd (
                        Prod.snd (zaH (Prod.snd (Prod.snd (zaH tvNew (idV (Vector.replicate 32 (0:UInt8)) (Vector.replicate 32 (0:UInt8)) (0:UInt32) (545259519:UInt32) (0:UInt32)) (Vector.replicate 32 (0:UInt8)) (0:UInt32) (545259519:UInt32) (0:UInt32)))) (Vector.replicate 32 (0:UInt8)) (Vector.replicate 32 (0:UInt8)) (1:UInt32) (545259519:UInt32) (0:UInt32)))) then
        if(
            tvC (Prod.snd (Prod.snd (zaH (Prod.snd (Prod.snd (zaH (Prod.snd (Prod.snd (zaH tvNew (idV (Vector.replicate 32 (0:UInt8)) (Vector.replicate 32 (0:UInt8)) (0:UInt32) (545259519:UInt32) (0:UInt32)) (Vector.replicate 32 (0:UInt8)) (0:UInt32) (545259519:UInt32) (0:UInt32)))) (Vector.replicate 32 (0:UInt8)) (Vector.replicate 32 (0:UInt8)) (1:UInt32) (545259519:UInt32) (0:UInt32)))) (Vector.replicate 32 (0:UInt8)) (Vector.replicate 32 (0:UInt8)) (0:UInt32) (545259519:UInt32) (0:UInt32)))))∧(zFU (TV.blocks (Prod.snd (Prod.snd (zaH (Prod.snd (Prod.snd (zaH (Prod.snd (Prod.snd (zaH tvNew (idV (Vector.replicate 32 (0:UInt8)) (Vector.replicate 32 (0:UInt8)) (0:UInt32) (545259519:UInt32) (0:UInt32)) (Vector.replicate 32 (0:UInt8)) (0:UInt32) (545259519:UInt32) (0:UInt32)))) (Vector.replicate 32 (0:UInt8)) (Vector.replicate 32 (0:UInt8)) (1:UInt32) (545259519:UInt32) (0:UInt32)))) (Vector.replicate 32 (0:UInt8)) (Vector.replicate 32 (0:UInt8)) (0:UInt32) (545259519:UInt32) (0:UInt32))))) (1:Int)) then
          bif eqb (decide ((Prod.fst (Prod.snd (zaH tvNew (idV (Vector.replicate 32 (0:UInt8)) (Vector.replicate 32 (0:UInt8)) (0:UInt32) (545259519:UInt32) (0:UInt32)) (Vector.replicate 32 (0:UInt8)) (0:UInt32) (545259519:UInt32) (0:UInt32))))=(0:Int))) true then(bif eqb (bif true then(decide ((Prod.fst (zaH tvNew (idV (Vector.replicate 32 (0:UInt8)) (Vector.replicate 32 (0:UInt8)) (0:UInt32) (545259519:UInt32) (0:UInt32)) (Vector.replicate 32 (0:UInt8)) (0:UInt32) (545259519:UInt32) (0:UInt32)))=(1:Int)))else false) true then(if tvC (Prod.snd (Prod.snd (zaH (Prod.snd (Prod.snd (zaH (Prod.snd (Prod.snd (zaH tvNew (idV (Vector.replicate 32 (0:UInt8)) (Vector.replicate 32 (0:UInt8)) (0:UInt32) (545259519:UInt32) (0:UInt32)) (Vector.replicate 32 (0:UInt8)) (0:UInt32) (545259519:UInt32) (0:UInt32)))) (Vector.replicate 32 (0:UInt8)) (Vector.replicate 32 (0:UInt8)) (1:UInt32) (545259519:UInt32) (0:UInt32)))) (Vector.replicate 32 (0:UInt8)) (Vector.replicate 32 (0:UInt8)) (0:UInt32) (545259519:UInt32) (0:UInt32)))) then
                bif eqb (bif true then(decide ((TV.best (Prod.snd (Prod.snd (zaH (Prod.snd (Prod.snd (zaH (Prod.snd (Prod.snd (zaH tvNew (idV (Vector.replicate 32 (0:UInt8)) (Vector.replicate 32 (0:UInt8)) (0:UInt32) (545259519:UInt32) (0:UInt32)) (Vector.replicate 32 (0:UInt8)) (0:UInt32) (545259519:UInt32) (0:UInt32)))) (Vector.replicate 32 (0:UInt8)) (Vector.replicate 32 (0:UInt8)) (1:UInt32) (545259519:UInt32) (0:UInt32)))) (Vector.replicate 32 (0:UInt8)) (Vector.replicate 32 (0:UInt8)) (0:UInt32) (545259519:UInt32) (0:UInt32)))))=(1:Int)))else false) true then(bif eqb (bif true then(decide ((Prod.fst (Prod.snd (zaH (Prod.snd (Prod.snd (zaH tvNew (idV (Vector.replicate 32 (0:UInt8)) (Vector.replicate 32 (0:UInt8)) (0:UInt32) (545259519:UInt32) (0:UInt32)) (Vector.replicate 32 (0:UInt8)) (0:UInt32) (545259519:UInt32) (0:UInt32)))) (Vector.replicate 32 (0:UInt8)) (Vector.replicate 32 (0:UInt8)) (1:UInt32) (545259519:UInt32) (0:UInt32))))=(6:Int)))else false) true then(bif eqb (bif true then(decide ((Prod.fst (Prod.snd (zaH (Prod.snd (Prod.snd (zaH (Prod.snd (Prod.snd (zaH tvNew (idV (Vector.replicate 32 (0:UInt8)) (Vector.replicate 32 (0:UInt8)) (0:UInt32) (545259519:UInt32) (0:UInt32)) (Vector.replicate 32 (0:UInt8)) (0:UInt32) (545259519:UInt32) (0:UInt32)))) (Vector.replicate 32 (0:UInt8)) (Vector.replicate 32 (0:UInt8)) (1:UInt32) (545259519:UInt32) (0:UInt32)))) (Vector.replicate 32 (0:UInt8)) (Vector.replicate 32 (0:UInt8)) (0:UInt32) (545259519:UInt32) (0:UInt32))))=(7:Int)))else false) true then(bif eqb (bif true then(decide ((bif(zgk (TV.blocks (Prod.snd (Prod.snd (zaH (Prod.snd (Prod.snd (zaH (Prod.snd (Prod.snd (zaH tvNew (idV (Vector.replicate 32 (0:UInt8)) (Vector.replicate 32 (0:UInt8)) (0:UInt32) (545259519:UInt32) (0:UInt32)) (Vector.replicate 32 (0:UInt8)) (0:UInt32) (545259519:UInt32) (0:UInt32)))) (Vector.replicate 32 (0:UInt8)) (Vector.replicate 32 (0:UInt8)) (1:UInt32) (545259519:UInt32) (0:UInt32)))) (Vector.replicate 32 (0:UInt8)) (Vector.replicate 32 (0:UInt8)) (0:UInt32) (545259519:UInt32) (0:UInt32))))) (1:Int)) then(0:Int) else(2:Int))=(0:Int)))else false) true then(bif eqb (bif true then(decide ((bif(zgk (TV.blocks (Prod.snd (Prod.snd (zaH (Prod.snd (Prod.snd (zaH (Prod.snd (Prod.snd (zaH tvNew (idV (Vector.replicate 32 (0:UInt8)) (Vector.replicate 32 (0:UInt8)) (0:UInt32) (545259519:UInt32) (0:UInt32)) (Vector.replicate 32 (0:UInt8)) (0:UInt32) (545259519:UInt32) (0:UInt32)))) (Vector.replicate 32 (0:UInt8)) (Vector.replicate 32 (0:UInt8)) (1:UInt32) (545259519:UInt32) (0:UInt32)))) (Vector.replicate 32 (0:UInt8)) (Vector.replicate 32 (0:UInt8)) (0:UInt32) (545259519:UInt32) (0:UInt32))))) (1:Int)) then((KN.height (zdd (TV.blocks (Prod.snd (Prod.snd (zaH (Prod.snd (Prod.snd (zaH (Prod.snd (Prod.snd (zaH tvNew (idV (Vector.replicate 32 (0:UInt8)) (Vector.replicate 32 (0:UInt8)) (0:UInt32) (545259519:UInt32) (0:UInt32)) (Vector.replicate 32 (0:UInt8)) (0:UInt32) (545259519:UInt32) (0:UInt32)))) (Vector.replicate 32 (0:UInt8)) (Vector.replicate 32 (0:UInt8)) (1:UInt32) (545259519:UInt32) (0:UInt32)))) (Vector.replicate 32 (0:UInt8)) (Vector.replicate 32 (0:UInt8)) (0:UInt32) (545259519:UInt32) (0:UInt32))))) (1:Int)))+(1:UInt32)) else(0:UInt32))=(2:UInt32)))else false) true then(some (bif true then(decide ((((List.length (TV.blocks (Prod.snd (Prod.snd (zaH (Prod.snd (Prod.snd (zaH (Prod.snd (Prod.snd (zaH tvNew (idV (Vector.replicate 32 (0:UInt8)) (Vector.replicate 32 (0:UInt8)) (0:UInt32) (545259519:UInt32) (0:UInt32)) (Vector.replicate 32 (0:UInt8)) (0:UInt32) (545259519:UInt32) (0:UInt32)))) (Vector.replicate 32 (0:UInt8)) (Vector.replicate 32 (0:UInt8)) (1:UInt32) (545259519:UInt32) (0:UInt32)))) (Vector.replicate 32 (0:UInt8)) (Vector.replicate 32 (0:UInt8)) (0:UInt32) (545259519:UInt32) (0:UInt32)))))):Nat):Int)=(2:Int)))else false))
                          else(some false))
                        else(some false))
                      else(some false))
                    else(some false))
                  else(some false)
              else none)
              else(some false))
            else(some false)
        else none
      else none
    else none
  else none
theorem zqf:law28_lives=some true:=by
  have A0:tvNew=tvOf [knBegin]:=zwN
  have hB:idV (Vector.replicate 32 0) (Vector.replicate 32 0) 0 545259519 0=vB:=zG8
  have A1:zaH (tvOf [knBegin]) vB (Vector.replicate 32 0) 0 545259519 0=(1,0,tvOf [knBegin,knOne]):=by
    rw[zwA,show (Vector.replicate 32 0:Vector UInt8 32)=vZ from rfl,liv1]
  have A2:zaH (tvOf [knBegin,knOne]) (Vector.replicate 32 0) (Vector.replicate 32 0) 1 545259519 0=(0,6,tvOf [knBegin,knOne]):=by
    rw[zwA,show (Vector.replicate 32 0:Vector UInt8 32)=vZ from rfl,liv2]
  have A3:zaH (tvOf [knBegin,knOne]) (Vector.replicate 32 0) (Vector.replicate 32 0) 0 545259519 0=(0,7,tvOf [knBegin,knOne]):=by
    rw[zwA,show (Vector.replicate 32 0:Vector UInt8 32)=vZ from rfl,liv3]
  have hh:zgk ([knBegin,knOne].map knPV) 1=true:=rfl
  have hk:zdd ([knBegin,knOne].map knPV) 1=knOne:=(zuA hh).1
  have hb:(tvOf [knBegin,knOne]).best=1:=by
    show ((zeZ [knBegin,knOne]:Nat):Int)=1
    rw[zGC]; rfl
  have hx:(tvOf [knBegin,knOne]).blocks=[knBegin,knOne].map knPV:=rfl
  have hc:zFU ([knBegin,knOne].map knPV) 1:=by
    intro _
    rw[hk]
    decide
  have hht:knOne.height+1=2:=rfl
  rw[law28_lives.eq_1,A0,hB,A1,A2,A3,hx,if_pos (tv_c zCq),if_pos (tv_c zCB),if_pos (tv_c zCB),if_pos (And.intro (tv_c zCB) hc),if_pos (tv_c zCB),hb,hh,hk,hht]
  rfl
end
end Go.Proofs.YtnolgfdjcipmmaaDoor.M
namespace Go.Proofs.YtnolgfdjcipmmaaDoor.M
open Go
noncomputable section
set_option maxRecDepth 100000
set_option maxHeartbeats 0
noncomputable def zjd:Tbl:=[(5,[],zkW),(22,[],zfy),(24,[],zk5),(8,[true,false],zkM),(15,[true,false],zlc),(7,[true],zhY),(11,[true],zkR)]
noncomputable def zmR:CfgW:=mkC Tryd.prog theG zjd 69 0 false
def zgO:Nat→List Nat:=fun i=>[]
noncomputable abbrev zjs:Code:=Tryd.f13.body.getD .skip
noncomputable abbrev znH:List ResultVar:=Tryd.f13.results.toList
def zgS:List Nat:=[]
def zas (r:Bool):CallOut:=⟨.pv (.sc .b r),[],true,[]⟩
theorem zw0  (Q:CallOut→Prop):zab zmR zgO znH zgS zjs [] [] Q =
  (let s0:=(Prod.snd (zaH (Prod.snd (Prod.snd (zaH (Prod.snd (Prod.snd (zaH tvNew (idV (Vector.replicate 32 (0:UInt8)) (Vector.replicate 32 (0:UInt8)) (0:UInt32) (545259519:UInt32) (0:UInt32)) (Vector.replicate 32 (0:UInt8)) (0:UInt32) (545259519:UInt32) (0:UInt32)))) (Vector.replicate 32 (0:UInt8)) (Vector.replicate 32 (0:UInt8)) (1:UInt32) (545259519:UInt32) (0:UInt32)))) (Vector.replicate 32 (0:UInt8)) (Vector.replicate 32 (0:UInt8)) (0:UInt32) (545259519:UInt32) (0:UInt32)));let s1:=(zaH tvNew (idV (Vector.replicate 32 (0:UInt8)) (Vector.replicate 32 (0:UInt8)) (0:UInt32) (545259519:UInt32) (0:UInt32)) (Vector.replicate 32 (0:UInt8)) (0:UInt32) (545259519:UInt32) (0:UInt32));let s2:=(Prod.snd (zaH (Prod.snd (Prod.snd  s1 )) (Vector.replicate 32 (0:UInt8)) (Vector.replicate 32 (0:UInt8)) (1:UInt32) (545259519:UInt32) (0:UInt32)));((tvC tvNew)∧((tvC (Prod.snd (Prod.snd  s1 )))∧((tvC (Prod.snd  s2 ))∧(((tvC (Prod.snd  s0 ))∧(zFU (TV.blocks (Prod.snd  s0 )) (1:Int)))∧(zal (eqb (decide ((Prod.fst (Prod.snd  s1 ))=(0:Int))) true) (zal (eqb (bif true then(decide ((Prod.fst  s1 )=(1:Int)))else false) true) ((tvC (Prod.snd  s0 ))∧(zal (eqb (bif true then(decide ((TV.best (Prod.snd  s0 ))=(1:Int)))else false) true) (zal (eqb (bif true then(decide ((Prod.fst  s2 )=(6:Int)))else false) true) (zal (eqb (bif true then(decide ((Prod.fst  s0 )=(7:Int)))else false) true) (zal (eqb (bif true then(decide ((bif(zgk (TV.blocks (Prod.snd  s0 )) (1:Int)) then(0:Int) else(2:Int))=(0:Int)))else false) true) (zal (eqb (bif true then(decide ((bif(zgk (TV.blocks (Prod.snd  s0 )) (1:Int)) then((KN.height (zdd (TV.blocks (Prod.snd  s0 )) (1:Int)))+(1:UInt32)) else(0:UInt32))=(2:UInt32)))else false) true) ((tvC (Prod.snd  s0 ))∧(Q (zas (bif true then(decide ((((List.length (TV.blocks (Prod.snd  s0 ))):Nat):Int)=(2:Int)))else false)))) (Q (zas false))) (Q (zas false))) (Q (zas false))) (Q (zas false))) (Q (zas false)))) (Q (zas false))) (Q (zas false)))))))):=by kernel_rfl
theorem zvl  {r} {Q:CallOut→Prop} (h:law28_lives  = some r) (hQ:Q (zas r)):zab zmR zgO znH zgS zjs [] [] Q :=
  Eq.mpr (zw0  Q) (have h:=(law28_lives.eq_1 ).symm.trans h; zad h fun hc0 h=>zad h fun hc1 h=>zad h fun hc2 h=>zad h fun hc3 h=>zae h (fun h=>zae h (fun h=>zad h fun hc4 h=>zae h (fun h=>zae h (fun h=>zae h (fun h=>zae h (fun h=>zae h (fun h=>⟨hc4,zam (Q:=Q) (e:=zas) h hQ⟩) (fun h=>zam (Q:=Q) (e:=zas) h hQ)) (fun h=>zam (Q:=Q) (e:=zas) h hQ)) (fun h=>zam (Q:=Q) (e:=zas) h hQ)) (fun h=>zam (Q:=Q) (e:=zas) h hQ)) (fun h=>zam (Q:=Q) (e:=zas) h hQ)) (fun h=>zam (Q:=Q) (e:=zas) h hQ)) (fun h=>zam (Q:=Q) (e:=zas) h hQ))
def zfw:Ans
  | [],[]=>some (none,zas (true))
  | _,_=>none
theorem zrA:TblOK Tryd.prog theG zjd:=.cons ⟨by kernel_rfl,zz5⟩ (.cons ⟨by kernel_rfl,zs6⟩ (.cons ⟨by kernel_rfl,zAv⟩ (.cons ⟨by kernel_rfl,zBN⟩ (.cons ⟨by kernel_rfl,zBC⟩ (.cons ⟨by kernel_rfl,zzr⟩ (.cons ⟨by kernel_rfl,zBk⟩ (.nil)))))))
theorem zsT:FnOK Tryd.prog theG 13 (unW zfw):=by
  refine FnOK.ofC (T:=zjd) (nt:=69) (np:=0) (mv:=[]) (nf:=false) (hs:=zgS) (fn:=Tryd.f13) (body:=zjs) zrA (by kernel_rfl) (by kernel_rfl) (by kernel_rfl) (by kernel_rfl) (c:=zfw) (lv:=zgO) ?_
  intro xs mem p out h hp
  unfold zfw at h
  split at h
  · cases h
    exact zvl  zqf rfl
  · cases h
end
end Go.Proofs.YtnolgfdjcipmmaaDoor.M
