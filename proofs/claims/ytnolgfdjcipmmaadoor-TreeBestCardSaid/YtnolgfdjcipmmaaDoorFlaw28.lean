/- Part of the proofs: what functions of the program do: plain functions, and the walks that show it. No condition. -/
import Derived.KernelRfl
import Derived.Test.YtnolgfdjcipmmaaDoorProg
import Derived.Test.YtnolgfdjcipmmaaDoorLe
import Derived.Test.YtnolgfdjcipmmaaDoorFtree
import Derived.Test.YtnolgfdjcipmmaaDoorFref08
import Derived.Test.YtnolgfdjcipmmaaDoorSwords
import Derived.Test.YtnolgfdjcipmmaaDoorSshaS
import Derived.Test.YtnolgfdjcipmmaaDoorSendS
import Derived.Test.YtnolgfdjcipmmaaDoorStarS
import Derived.Test.YtnolgfdjcipmmaaDoorSbigS
import Derived.Test.YtnolgfdjcipmmaaDoorStreS
import Derived.Test.YtnolgfdjcipmmaaDoorStreL
import Derived.Test.YtnolgfdjcipmmaaDoorSshaK
set_option linter.unusedVariables false
set_option linter.unusedSimpArgs false
set_option autoImplicit false
namespace Go.Proofs.YtnolgfdjcipmmaaDoor.M
open Go
noncomputable section
def law28_lives  : Option (Bool) :=
 if tvC tvNew then
  if tvC (
      Prod.snd (
           Prod.snd (zaE tvNew (idV (Vector.replicate 32 (0:UInt8)) (Vector.replicate 32 (0:UInt8)) (0:UInt32) (545259519:UInt32) (0:UInt32)) (Vector.replicate 32 (0:UInt8)) (0:UInt32) (545259519:UInt32) (0:UInt32)))) then
   if tvC (
       Prod.snd (
            Prod.snd (zaE (Prod.snd (Prod.snd (zaE tvNew (idV (Vector.replicate 32 (0:UInt8)) (Vector.replicate 32 (0:UInt8)) (0:UInt32) (545259519:UInt32) (0:UInt32)) (Vector.replicate 32 (0:UInt8)) (0:UInt32) (545259519:UInt32) (0:UInt32)))) (Vector.replicate 32 (0:UInt8)) (Vector.replicate 32 (0:UInt8)) (1:UInt32) (545259519:UInt32) (0:UInt32)))) then
    if(
      tvC (Prod.snd (Prod.snd (zaE (Prod.snd (Prod.snd (zaE (Prod.snd (Prod.snd (zaE tvNew (idV (Vector.replicate 32 (0:UInt8)) (Vector.replicate 32 (0:UInt8)) (0:UInt32) (545259519:UInt32) (0:UInt32)) (Vector.replicate 32 (0:UInt8)) (0:UInt32) (545259519:UInt32) (0:UInt32)))) (Vector.replicate 32 (0:UInt8)) (Vector.replicate 32 (0:UInt8)) (1:UInt32) (545259519:UInt32) (0:UInt32)))) (Vector.replicate 32 (0:UInt8)) (Vector.replicate 32 (0:UInt8)) (0:UInt32) (545259519:UInt32) (0:UInt32)))))∧(zGk (TV.blocks (Prod.snd (Prod.snd (zaE (Prod.snd (Prod.snd (zaE (Prod.snd (Prod.snd (zaE tvNew (idV (Vector.replicate 32 (0:UInt8)) (Vector.replicate 32 (0:UInt8)) (0:UInt32) (545259519:UInt32) (0:UInt32)) (Vector.replicate 32 (0:UInt8)) (0:UInt32) (545259519:UInt32) (0:UInt32)))) (Vector.replicate 32 (0:UInt8)) (Vector.replicate 32 (0:UInt8)) (1:UInt32) (545259519:UInt32) (0:UInt32)))) (Vector.replicate 32 (0:UInt8)) (Vector.replicate 32 (0:UInt8)) (0:UInt32) (545259519:UInt32) (0:UInt32))))) (1:Int)) then
     bif eqb (decide ((Prod.fst (Prod.snd (zaE tvNew (idV (Vector.replicate 32 (0:UInt8)) (Vector.replicate 32 (0:UInt8)) (0:UInt32) (545259519:UInt32) (0:UInt32)) (Vector.replicate 32 (0:UInt8)) (0:UInt32) (545259519:UInt32) (0:UInt32))))=(0:Int))) true then(bif eqb (bif true then(decide ((Prod.fst (zaE tvNew (idV (Vector.replicate 32 (0:UInt8)) (Vector.replicate 32 (0:UInt8)) (0:UInt32) (545259519:UInt32) (0:UInt32)) (Vector.replicate 32 (0:UInt8)) (0:UInt32) (545259519:UInt32) (0:UInt32)))=(1:Int)))else false) true then(if tvC (Prod.snd (Prod.snd (zaE (Prod.snd (Prod.snd (zaE (Prod.snd (Prod.snd (zaE tvNew (idV (Vector.replicate 32 (0:UInt8)) (Vector.replicate 32 (0:UInt8)) (0:UInt32) (545259519:UInt32) (0:UInt32)) (Vector.replicate 32 (0:UInt8)) (0:UInt32) (545259519:UInt32) (0:UInt32)))) (Vector.replicate 32 (0:UInt8)) (Vector.replicate 32 (0:UInt8)) (1:UInt32) (545259519:UInt32) (0:UInt32)))) (Vector.replicate 32 (0:UInt8)) (Vector.replicate 32 (0:UInt8)) (0:UInt32) (545259519:UInt32) (0:UInt32)))) then
        bif eqb (bif true then(decide ((TV.best (Prod.snd (Prod.snd (zaE (Prod.snd (Prod.snd (zaE (Prod.snd (Prod.snd (zaE tvNew (idV (Vector.replicate 32 (0:UInt8)) (Vector.replicate 32 (0:UInt8)) (0:UInt32) (545259519:UInt32) (0:UInt32)) (Vector.replicate 32 (0:UInt8)) (0:UInt32) (545259519:UInt32) (0:UInt32)))) (Vector.replicate 32 (0:UInt8)) (Vector.replicate 32 (0:UInt8)) (1:UInt32) (545259519:UInt32) (0:UInt32)))) (Vector.replicate 32 (0:UInt8)) (Vector.replicate 32 (0:UInt8)) (0:UInt32) (545259519:UInt32) (0:UInt32)))))=(1:Int)))else false) true then(bif eqb (bif true then(decide ((Prod.fst (Prod.snd (zaE (Prod.snd (Prod.snd (zaE tvNew (idV (Vector.replicate 32 (0:UInt8)) (Vector.replicate 32 (0:UInt8)) (0:UInt32) (545259519:UInt32) (0:UInt32)) (Vector.replicate 32 (0:UInt8)) (0:UInt32) (545259519:UInt32) (0:UInt32)))) (Vector.replicate 32 (0:UInt8)) (Vector.replicate 32 (0:UInt8)) (1:UInt32) (545259519:UInt32) (0:UInt32))))=(6:Int)))else false) true then(bif eqb (bif true then(decide ((Prod.fst (Prod.snd (zaE (Prod.snd (Prod.snd (zaE (Prod.snd (Prod.snd (zaE tvNew (idV (Vector.replicate 32 (0:UInt8)) (Vector.replicate 32 (0:UInt8)) (0:UInt32) (545259519:UInt32) (0:UInt32)) (Vector.replicate 32 (0:UInt8)) (0:UInt32) (545259519:UInt32) (0:UInt32)))) (Vector.replicate 32 (0:UInt8)) (Vector.replicate 32 (0:UInt8)) (1:UInt32) (545259519:UInt32) (0:UInt32)))) (Vector.replicate 32 (0:UInt8)) (Vector.replicate 32 (0:UInt8)) (0:UInt32) (545259519:UInt32) (0:UInt32))))=(7:Int)))else false) true then(bif eqb (bif true then(decide ((bif(zdN (TV.blocks (Prod.snd (Prod.snd (zaE (Prod.snd (Prod.snd (zaE (Prod.snd (Prod.snd (zaE tvNew (idV (Vector.replicate 32 (0:UInt8)) (Vector.replicate 32 (0:UInt8)) (0:UInt32) (545259519:UInt32) (0:UInt32)) (Vector.replicate 32 (0:UInt8)) (0:UInt32) (545259519:UInt32) (0:UInt32)))) (Vector.replicate 32 (0:UInt8)) (Vector.replicate 32 (0:UInt8)) (1:UInt32) (545259519:UInt32) (0:UInt32)))) (Vector.replicate 32 (0:UInt8)) (Vector.replicate 32 (0:UInt8)) (0:UInt32) (545259519:UInt32) (0:UInt32))))) (1:Int)) then(0:Int) else(2:Int))=(0:Int)))else false) true then(bif eqb (bif true then(decide ((bif(zdN (TV.blocks (Prod.snd (Prod.snd (zaE (Prod.snd (Prod.snd (zaE (Prod.snd (Prod.snd (zaE tvNew (idV (Vector.replicate 32 (0:UInt8)) (Vector.replicate 32 (0:UInt8)) (0:UInt32) (545259519:UInt32) (0:UInt32)) (Vector.replicate 32 (0:UInt8)) (0:UInt32) (545259519:UInt32) (0:UInt32)))) (Vector.replicate 32 (0:UInt8)) (Vector.replicate 32 (0:UInt8)) (1:UInt32) (545259519:UInt32) (0:UInt32)))) (Vector.replicate 32 (0:UInt8)) (Vector.replicate 32 (0:UInt8)) (0:UInt32) (545259519:UInt32) (0:UInt32))))) (1:Int)) then((KN.height (zak (TV.blocks (Prod.snd (Prod.snd (zaE (Prod.snd (Prod.snd (zaE (Prod.snd (Prod.snd (zaE tvNew (idV (Vector.replicate 32 (0:UInt8)) (Vector.replicate 32 (0:UInt8)) (0:UInt32) (545259519:UInt32) (0:UInt32)) (Vector.replicate 32 (0:UInt8)) (0:UInt32) (545259519:UInt32) (0:UInt32)))) (Vector.replicate 32 (0:UInt8)) (Vector.replicate 32 (0:UInt8)) (1:UInt32) (545259519:UInt32) (0:UInt32)))) (Vector.replicate 32 (0:UInt8)) (Vector.replicate 32 (0:UInt8)) (0:UInt32) (545259519:UInt32) (0:UInt32))))) (1:Int)))+(1:UInt32)) else(0:UInt32))=(2:UInt32)))else false) true then(some (bif true then(decide ((((List.length (TV.blocks (Prod.snd (Prod.snd (zaE (Prod.snd (Prod.snd (zaE (Prod.snd (Prod.snd (zaE tvNew (idV (Vector.replicate 32 (0:UInt8)) (Vector.replicate 32 (0:UInt8)) (0:UInt32) (545259519:UInt32) (0:UInt32)) (Vector.replicate 32 (0:UInt8)) (0:UInt32) (545259519:UInt32) (0:UInt32)))) (Vector.replicate 32 (0:UInt8)) (Vector.replicate 32 (0:UInt8)) (1:UInt32) (545259519:UInt32) (0:UInt32)))) (Vector.replicate 32 (0:UInt8)) (Vector.replicate 32 (0:UInt8)) (0:UInt32) (545259519:UInt32) (0:UInt32)))))):Nat):Int)=(2:Int)))else false))
             else(some false))
            else(some false))
           else(some false))
          else(some false))
         else(some false)
       else none)
       else(some false))
      else(some false)
    else none
   else none
  else none
 else none
theorem zqU:law28_lives=some true:=by
 have A0:tvNew=tvOf [knBegin]:=zlU
 have hB:idV (Vector.replicate 32 0) (Vector.replicate 32 0) 0 545259519 0=vB:=zIP
 have A1:zaE (tvOf [knBegin]) vB (Vector.replicate 32 0) 0 545259519 0=(1,0,tvOf [knBegin,knOne]):=by
  rw[zrl,show (Vector.replicate 32 0:Vector UInt8 32)=vZ from rfl,liv1]
 have A2:zaE (tvOf [knBegin,knOne]) (Vector.replicate 32 0) (Vector.replicate 32 0) 1 545259519 0=(0,6,tvOf [knBegin,knOne]):=by
  rw[zrl,show (Vector.replicate 32 0:Vector UInt8 32)=vZ from rfl,liv2]
 have A3:zaE (tvOf [knBegin,knOne]) (Vector.replicate 32 0) (Vector.replicate 32 0) 0 545259519 0=(0,7,tvOf [knBegin,knOne]):=by
  rw[zrl,show (Vector.replicate 32 0:Vector UInt8 32)=vZ from rfl,liv3]
 have hh:zdN ([knBegin,knOne].map knPV) 1=true:=rfl
 have hk:zak ([knBegin,knOne].map knPV) 1=knOne:=(zlP hh).1
 have hb:(tvOf [knBegin,knOne]).best=1:=by
  show ((zaM [knBegin,knOne]:Nat):Int)=1
  rw[zHz]; rfl
 have hx:(tvOf [knBegin,knOne]).blocks=[knBegin,knOne].map knPV:=rfl
 have hc:zGk ([knBegin,knOne].map knPV) 1:=by
  intro _
  rw[hk]
  decide
 have hht:knOne.height+1=2:=rfl
 rw[law28_lives.eq_1,A0,hB,A1,A2,A3,hx,if_pos (tv_c zwm),if_pos (tv_c zDL),if_pos (tv_c zDL),if_pos (And.intro (tv_c zDL) hc),if_pos (tv_c zDL),hb,hh,hk,hht]
 rfl
end
end Go.Proofs.YtnolgfdjcipmmaaDoor.M
namespace Go.Proofs.YtnolgfdjcipmmaaDoor.M
open Go
noncomputable section
set_option maxRecDepth 100000
set_option maxHeartbeats 0
noncomputable def ziR:Tbl:=[(5,[],ziC),(22,[],ze7),(24,[],zgU),(8,[true,false],ziq),(15,[true,false],zlr),(7,[true],zhb),(11,[true],zif)]
noncomputable def znK:CfgW:=mkC Tryd.prog theG ziR 69 0 false
def zh0:Nat→List Nat:=fun i=>[]
noncomputable abbrev zjz:Code:=Tryd.f13.body.getD .skip
noncomputable abbrev zn9:List ResultVar:=Tryd.f13.results.toList
def zhW:List Nat:=[]
def zaC (r:Bool):CallOut:=⟨.pv (.sc .b r),[],true,[]⟩
theorem zxv  (Q:CallOut→Prop):zac znK zh0 zn9 zhW zjz [] [] Q =
 (let s0:=(Prod.snd (zaE (Prod.snd (Prod.snd (zaE (Prod.snd (Prod.snd (zaE tvNew (idV (Vector.replicate 32 (0:UInt8)) (Vector.replicate 32 (0:UInt8)) (0:UInt32) (545259519:UInt32) (0:UInt32)) (Vector.replicate 32 (0:UInt8)) (0:UInt32) (545259519:UInt32) (0:UInt32)))) (Vector.replicate 32 (0:UInt8)) (Vector.replicate 32 (0:UInt8)) (1:UInt32) (545259519:UInt32) (0:UInt32)))) (Vector.replicate 32 (0:UInt8)) (Vector.replicate 32 (0:UInt8)) (0:UInt32) (545259519:UInt32) (0:UInt32)));let s1:=(zaE tvNew (idV (Vector.replicate 32 (0:UInt8)) (Vector.replicate 32 (0:UInt8)) (0:UInt32) (545259519:UInt32) (0:UInt32)) (Vector.replicate 32 (0:UInt8)) (0:UInt32) (545259519:UInt32) (0:UInt32));let s2:=(Prod.snd (zaE (Prod.snd (Prod.snd  s1 )) (Vector.replicate 32 (0:UInt8)) (Vector.replicate 32 (0:UInt8)) (1:UInt32) (545259519:UInt32) (0:UInt32)));((tvC tvNew)∧((tvC (Prod.snd (Prod.snd  s1 )))∧((tvC (Prod.snd  s2 ))∧(((tvC (Prod.snd  s0 ))∧(zGk (TV.blocks (Prod.snd  s0 )) (1:Int)))∧(zaf (eqb (decide ((Prod.fst (Prod.snd  s1 ))=(0:Int))) true) (zaf (eqb (bif true then(decide ((Prod.fst  s1 )=(1:Int)))else false) true) ((tvC (Prod.snd  s0 ))∧(zaf (eqb (bif true then(decide ((TV.best (Prod.snd  s0 ))=(1:Int)))else false) true) (zaf (eqb (bif true then(decide ((Prod.fst  s2 )=(6:Int)))else false) true) (zaf (eqb (bif true then(decide ((Prod.fst  s0 )=(7:Int)))else false) true) (zaf (eqb (bif true then(decide ((bif(zdN (TV.blocks (Prod.snd  s0 )) (1:Int)) then(0:Int) else(2:Int))=(0:Int)))else false) true) (zaf (eqb (bif true then(decide ((bif(zdN (TV.blocks (Prod.snd  s0 )) (1:Int)) then((KN.height (zak (TV.blocks (Prod.snd  s0 )) (1:Int)))+(1:UInt32)) else(0:UInt32))=(2:UInt32)))else false) true) ((tvC (Prod.snd  s0 ))∧(Q (zaC (bif true then(decide ((((List.length (TV.blocks (Prod.snd  s0 ))):Nat):Int)=(2:Int)))else false)))) (Q (zaC false))) (Q (zaC false))) (Q (zaC false))) (Q (zaC false))) (Q (zaC false)))) (Q (zaC false))) (Q (zaC false)))))))):=by kernel_rfl
theorem zx4  {r} {Q:CallOut→Prop} (h:law28_lives  = some r) (hQ:Q (zaC r)):zac znK zh0 zn9 zhW zjz [] [] Q :=
 Eq.mpr (zxv  Q) (have h:=(law28_lives.eq_1 ).symm.trans h; zad h fun hc0 h=>zad h fun hc1 h=>zad h fun hc2 h=>zad h fun hc3 h=>zab h (fun h=>zab h (fun h=>zad h fun hc4 h=>zab h (fun h=>zab h (fun h=>zab h (fun h=>zab h (fun h=>zab h (fun h=>⟨hc4,zag (Q:=Q) (e:=zaC) h hQ⟩) (fun h=>zag (Q:=Q) (e:=zaC) h hQ)) (fun h=>zag (Q:=Q) (e:=zaC) h hQ)) (fun h=>zag (Q:=Q) (e:=zaC) h hQ)) (fun h=>zag (Q:=Q) (e:=zaC) h hQ)) (fun h=>zag (Q:=Q) (e:=zaC) h hQ)) (fun h=>zag (Q:=Q) (e:=zaC) h hQ)) (fun h=>zag (Q:=Q) (e:=zaC) h hQ))
def zgx:Ans
 | [],[]=>some (none,zaC (true))
 | _,_=>none
theorem zrI:TblOK Tryd.prog theG ziR:=.cons ⟨by kernel_rfl,zr7⟩ (.cons ⟨by kernel_rfl,zmj⟩ (.cons ⟨by kernel_rfl,znq⟩ (.cons ⟨by kernel_rfl,zsL⟩ (.cons ⟨by kernel_rfl,zBS⟩ (.cons ⟨by kernel_rfl,zqf⟩ (.cons ⟨by kernel_rfl,zr1⟩ (.nil)))))))
theorem zt9:FnOK Tryd.prog theG 13 (unW zgx):=by
 refine FnOK.ofC (T:=ziR) (nt:=69) (np:=0) (mv:=[]) (nf:=false) (hs:=zhW) (fn:=Tryd.f13) (body:=zjz) zrI (by kernel_rfl) (by kernel_rfl) (by kernel_rfl) (by kernel_rfl) (c:=zgx) (lv:=zh0) ?_
 intro xs mem p out h hp
 unfold zgx at h
 split at h
 ·cases h
  exact zx4  zqU rfl
 ·cases h
end
end Go.Proofs.YtnolgfdjcipmmaaDoor.M
