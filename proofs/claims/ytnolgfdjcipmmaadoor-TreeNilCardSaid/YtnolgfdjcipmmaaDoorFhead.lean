/- Part of the proofs: what functions of the program do: plain functions, and the walks that show it. No condition. -/
import Derived.KernelRfl
import Derived.Test.YtnolgfdjcipmmaaDoorProg
import Derived.Test.YtnolgfdjcipmmaaDoorLe
import Derived.Test.YtnolgfdjcipmmaaDoorFends
import Derived.Test.YtnolgfdjcipmmaaDoorSwords
import Derived.Test.YtnolgfdjcipmmaaDoorSshaS
import Derived.Test.YtnolgfdjcipmmaaDoorSbigS
import Derived.Test.YtnolgfdjcipmmaaDoorSendS
import Derived.Test.YtnolgfdjcipmmaaDoorStarS
import Derived.Test.YtnolgfdjcipmmaaDoorFsha
import Derived.Test.YtnolgfdjcipmmaaDoorSshaK
set_option linter.unusedVariables false
set_option linter.unusedSimpArgs false
set_option autoImplicit false
namespace Go.Proofs.YtnolgfdjcipmmaaDoor.M
open Go
noncomputable section
def head_low (n:UInt32):List UInt8 :=
  (putL (UInt32.toUInt64 n) (4:Int))
theorem zwT (n:UInt32):head_low n=lowY n.toNat 4:=by
  rw[head_low,zvc]
end
end Go.Proofs.YtnolgfdjcipmmaaDoor.M
namespace Go.Proofs.YtnolgfdjcipmmaaDoor.M
open Go
noncomputable section
def head_Put_h0:Nat→(Vector UInt32 3)→Int→(List UInt8)→Option (List UInt8)
  | 0,_,_,_=>none
  | k+1,t20,t21,b=>bif decide (t21 < (3:Int)) then(if((0:Int)≤t21)∧(t21 < (3:Int)) then
        if(((List.length (b++(lowY (UInt32.toNat (List.getD (Vector.toList t20) (Int.toNat t21) (0:UInt32))) (4:Nat))))*(1:Nat))≤(70368744177664:Nat))∧((List.length (b++(lowY (UInt32.toNat (List.getD (Vector.toList t20) (Int.toNat t21) (0:UInt32))) (4:Nat))))≤(70368744177664:Nat)) then
          head_Put_h0 k t20 (w64 (t21+(1:Int))) (b++(lowY (UInt32.toNat (List.getD (Vector.toList t20) (Int.toNat t21) (0:UInt32))) (4:Nat)))
        else none
      else none)
      else(some b)
def head_Put (k:Nat) (h_0_Prev:Vector UInt8 32) (h_0_Root:Vector UInt8 32) (h_0_Time:UInt32) (h_0_Bits:UInt32) (h_0_Nonce:UInt32):Option (List UInt8) :=
  if(
      ((List.length ((List.replicate (0:Nat) (0:UInt8))++(List.take ((Int.toNat (32:Int)) - (Int.toNat (0:Int))) (List.drop (Int.toNat (0:Int)) (Vector.toList h_0_Prev)))))*(1:Nat))≤(70368744177664:Nat))∧((List.length ((List.replicate (0:Nat) (0:UInt8))++(List.take ((Int.toNat (32:Int)) - (Int.toNat (0:Int))) (List.drop (Int.toNat (0:Int)) (Vector.toList h_0_Prev)))))≤(70368744177664:Nat)) then
    if(((List.length (((List.replicate (0:Nat) (0:UInt8))++(List.take ((Int.toNat (32:Int)) - (Int.toNat (0:Int))) (List.drop (Int.toNat (0:Int)) (Vector.toList h_0_Prev))))++(List.take ((Int.toNat (32:Int)) - (Int.toNat (0:Int))) (List.drop (Int.toNat (0:Int)) (Vector.toList h_0_Root)))))*(1:Nat))≤(70368744177664:Nat))∧((List.length (((List.replicate (0:Nat) (0:UInt8))++(List.take ((Int.toNat (32:Int)) - (Int.toNat (0:Int))) (List.drop (Int.toNat (0:Int)) (Vector.toList h_0_Prev))))++(List.take ((Int.toNat (32:Int)) - (Int.toNat (0:Int))) (List.drop (Int.toNat (0:Int)) (Vector.toList h_0_Root)))))≤(70368744177664:Nat)) then
      head_Put_h0 k (Vector.setIfInBounds (Vector.setIfInBounds (Vector.setIfInBounds (Vector.replicate 3 (0:UInt32)) (0:Nat) h_0_Time) (1:Nat) h_0_Bits) (2:Nat) h_0_Nonce) (0:Int) (((List.replicate (0:Nat) (0:UInt8))++(List.take ((Int.toNat (32:Int)) - (Int.toNat (0:Int))) (List.drop (Int.toNat (0:Int)) (Vector.toList h_0_Prev))))++(List.take ((Int.toNat (32:Int)) - (Int.toNat (0:Int))) (List.drop (Int.toNat (0:Int)) (Vector.toList h_0_Root))))
    else none
  else none
theorem zw5 (p r:Vector UInt8 32) (t b n:UInt32):Ev (fun k=>head_Put k p r t b n) (zix p r t b n):=by
  have tp:∀ v:Vector UInt8 32,List.take (Int.toNat (32:Int) - Int.toNat (0:Int)) (List.drop (Int.toNat (0:Int)) (Vector.toList v))=Vector.toList v:=zGW
  have l0:=zel t.toNat 4
  have l1:=zel b.toNat 4
  have l2:=zel n.toNat 4
  have g0:List.getD (Vector.toList (Vector.setIfInBounds (Vector.setIfInBounds (Vector.setIfInBounds (Vector.replicate 3 (0:UInt32)) 0 t) 1 b) 2 n)) 0 0=t:=rfl
  have g1:List.getD (Vector.toList (Vector.setIfInBounds (Vector.setIfInBounds (Vector.setIfInBounds (Vector.replicate 3 (0:UInt32)) 0 t) 1 b) 2 n)) 1 0=b:=rfl
  have g2:List.getD (Vector.toList (Vector.setIfInBounds (Vector.setIfInBounds (Vector.setIfInBounds (Vector.replicate 3 (0:UInt32)) 0 t) 1 b) 2 n)) 2 0=n:=rfl
  have w1:w64 ((0:Int)+1)=1:=by decide
  have w2:w64 ((1:Int)+1)=2:=by decide
  have w3:w64 ((2:Int)+1)=3:=by decide
  refine ⟨4,?_⟩
  show head_Put 4 p r t b n=_
  have hp:(Vector.toList p).length=32:=by simp
  have hr:(Vector.toList r).length=32:=by simp
  rw[head_Put,tp,tp,List.replicate_zero,List.nil_append,if_pos (by omega),if_pos (by rw[List.length_append]; omega)]
  rw[head_Put_h0,decide_eq_true (by decide),cond_true,if_pos (by decide),show Int.toNat 0=0 from rfl,g0,if_pos (by rw[List.length_append,List.length_append]; omega),w1]
  rw[head_Put_h0,decide_eq_true (by decide),cond_true,if_pos (by decide),show Int.toNat 1=1 from rfl,g1,if_pos (by rw[List.length_append,List.length_append,List.length_append]; omega),w2]
  rw[head_Put_h0,decide_eq_true (by decide),cond_true,if_pos (by decide),show Int.toNat 2=2 from rfl,g2,if_pos (by rw[List.length_append,List.length_append,List.length_append,List.length_append]; omega),w3]
  rw[head_Put_h0,decide_eq_false (by decide),cond_false,zle]
end
end Go.Proofs.YtnolgfdjcipmmaaDoor.M
namespace Go.Proofs.YtnolgfdjcipmmaaDoor.M
open Go
noncomputable section
def head_Id (h_0_Prev:Vector UInt8 32) (h_0_Root:Vector UInt8 32) (h_0_Time:UInt32) (h_0_Bits:UInt32) (h_0_Nonce:UInt32):Option (Vector UInt8 32) :=
  if(List.length (zix h_0_Prev h_0_Root h_0_Time h_0_Bits h_0_Nonce))≤(1099511627776:Nat) then
    some (zaQ (Vector.toList (zaQ (zix h_0_Prev h_0_Root h_0_Time h_0_Bits h_0_Nonce))))
  else none
theorem zyk (p r:Vector UInt8 32) (t b n:UInt32):head_Id p r t b n=some (idV p r t b n):=by
  rw[head_Id,if_pos (by rw[zx0]; omega),zy1]
end
end Go.Proofs.YtnolgfdjcipmmaaDoor.M
namespace Go.Proofs.YtnolgfdjcipmmaaDoor.M
open Go
noncomputable section
def head_Begin  : Vector UInt8 32 × Vector UInt8 32 × UInt32 × UInt32 × UInt32 :=
  ((Vector.replicate 32 (0:UInt8)),(Vector.replicate 32 (0:UInt8)),(0:UInt32),(545259519:UInt32),(0:UInt32))
end
end Go.Proofs.YtnolgfdjcipmmaaDoor.M
namespace Go.Proofs.YtnolgfdjcipmmaaDoor.M
open Go
noncomputable section
set_option maxRecDepth 100000
set_option maxHeartbeats 0
noncomputable def zoT:Tbl:=[(78,[],zk1)]
noncomputable def zt4:CfgW:=mkC Tryd.prog theG zoT 12 0 false
def zlR:Nat→List Nat:=fun i=>[]
noncomputable abbrev zot:Code:=Tryd.f61.body.getD .skip
noncomputable abbrev zuk:List ResultVar:=Tryd.f61.results.toList
def zl6:List Nat:=[]
def zeR (r:List UInt8):CallOut:=⟨.o 60000,[(60000,.row (.s .u8 r) false)],true,[]⟩
theorem zD8 (n:UInt32) (Q:CallOut→Prop):zab zt4 zlR zuk zl6 zot [.pv (.sc .u32 n)] [] Q =
    (Q (zeR (putL (UInt32.toUInt64 n) (4:Int)))):=by kernel_rfl
theorem zC8 (n:UInt32) {Q:CallOut→Prop} (h:Q (zeR (head_low n))):zab zt4 zlR zuk zl6 zot [.pv (.sc .u32 n)] [] Q :=
  Eq.mpr (zD8 n Q) (have h:=Eq.mp (congrArg (fun r=>Q (zeR r)) (head_low.eq_1 n)) h; h)
def zlh:Ans
  | [.pv (.sc .u32 n)],[]=>some (none,zeR (lowY n.toNat 4))
  | _,_=>none
theorem zzx:TblOK Tryd.prog theG zoT:=.cons ⟨by kernel_rfl,zBb⟩ (.nil)
theorem zAo:FnOK Tryd.prog theG 61 (unW zlh):=by
  refine FnOK.ofC (T:=zoT) (nt:=12) (np:=0) (mv:=[]) (nf:=false) (hs:=zl6) (fn:=Tryd.f61) (body:=zot) zzx (by kernel_rfl) (by kernel_rfl) (by kernel_rfl) (by kernel_rfl) (c:=zlh) (lv:=zlR) ?_
  intro xs mem p out h hp
  unfold zlh at h
  split at h
  · cases h
    exact zC8 _ (congrArg zeR (zwT _))
  · cases h
end
end Go.Proofs.YtnolgfdjcipmmaaDoor.M
namespace Go.Proofs.YtnolgfdjcipmmaaDoor.M
open Go
noncomputable section
set_option maxRecDepth 100000
set_option maxHeartbeats 0
noncomputable def zon:Tbl:=[(61,[],zlh)]
noncomputable def zcq:CfgW:=mkC Tryd.prog theG zon 30 0 false
def zda:Nat→List Nat:=fun i=>bif Nat.beq i 0 then [3,20,21]else []
noncomputable abbrev zea:Code:=Tryd.f43.body.getD .skip
noncomputable abbrev zfD:List ResultVar:=Tryd.f43.results.toList
def zc6:List Nat:=[]
def zeK (r:List UInt8):CallOut:=⟨.o 60000,[(60000,.row (.s .u8 r) false)],true,[]⟩
def zjq (t20:Vector UInt32 3) (t21:Int) (b:List UInt8):St:=⟨[(3,.o 60000),(20,.pv (.arr .u32 3 t20)),(21,.pv (.sc .i t21))],[(60000,.row (.s .u8 b) false)]⟩
theorem zAC (t20:Vector UInt32 3) (t21:Int) (b:List UInt8) (Q:CallOut→Prop):zaB zcq zda [true,true,true,false,true,false] zea (zjq t20 t21 b) (fnK zcq zfD zc6 Q) =
    (zal (decide (t21 < (3:Int))) ((((0:Int)≤t21)∧(t21 < (3:Int)))∧(((((List.length (b++(lowY (UInt32.toNat (List.getD (Vector.toList t20) (Int.toNat t21) (0:UInt32))) (4:Nat))))*(1:Nat))≤(70368744177664:Nat))∧((List.length (b++(lowY (UInt32.toNat (List.getD (Vector.toList t20) (Int.toNat t21) (0:UInt32))) (4:Nat))))≤(70368744177664:Nat)))∧(zat zcq zda [true,true,true,false,true,false] zea (zjq t20 (w64 (t21+(1:Int))) (b++(lowY (UInt32.toNat (List.getD (Vector.toList t20) (Int.toNat t21) (0:UInt32))) (4:Nat)))) (fnK zcq zfD zc6 Q)))) (Q (zeK b))):=by kernel_rfl
theorem zq0 {r:List UInt8} {Q:CallOut→Prop} (hQ:Q (zeK r)):∀ k:Nat,(∀ (t20:Vector UInt32 3) (t21:Int) (b:List UInt8),head_Put_h0 k t20 t21 b=some r→zat zcq zda [true,true,true,false,true,false] zea (zjq t20 t21 b) (fnK zcq zfD zc6 Q))
  | 0=>fun _ _ _ h=>zcN h
  | k+1=>fun t20 t21 b h=>zau (Eq.mpr (zAC t20 t21 b Q) (have h:=(head_Put_h0.eq_2 t20 t21 b k).symm.trans h; zae h (fun h=>zad h fun hc0 h=>zad h fun hc1 h=>(zq0 hQ k) _ _ _ h) (fun h=>zam (Q:=Q) (e:=zeK) h hQ)))
theorem zDh (h_0_Prev:Vector UInt8 32) (h_0_Root:Vector UInt8 32) (h_0_Time:UInt32) (h_0_Bits:UInt32) (h_0_Nonce:UInt32) (Q:CallOut→Prop):zab zcq zda zfD zc6 zea [.pv (.st [.arr .u8 32 h_0_Prev,.arr .u8 32 h_0_Root,.sc .u32 h_0_Time,.sc .u32 h_0_Bits,.sc .u32 h_0_Nonce])] [] Q =
  (let s0:=((List.replicate (0:Nat) (0:UInt8))++(List.take ((Int.toNat (32:Int)) - (Int.toNat (0:Int))) (List.drop (Int.toNat (0:Int)) (Vector.toList h_0_Prev))));let s1:=( s0 ++(List.take ((Int.toNat (32:Int)) - (Int.toNat (0:Int))) (List.drop (Int.toNat (0:Int)) (Vector.toList h_0_Root))));((((0:Int)≤(0:Int))∧(((0:Int)≤(76:Int))∧((((76:Int)*(((1:Nat):Nat):Int))≤(((70368744177664:Nat):Nat):Int))∧((76:Int)≤((2:Int) ^ (62:Nat))))))∧((((0:Int)≤(0:Int))∧(((0:Int)≤(32:Int))∧((32:Int)≤(((32:Nat):Nat):Int))))∧(((((List.length  s0 )*(1:Nat))≤(70368744177664:Nat))∧((List.length  s0 )≤(70368744177664:Nat)))∧((((0:Int)≤(0:Int))∧(((0:Int)≤(32:Int))∧((32:Int)≤(((32:Nat):Nat):Int))))∧(((((List.length  s1 )*(1:Nat))≤(70368744177664:Nat))∧((List.length  s1 )≤(70368744177664:Nat)))∧(zat zcq zda [true,true,true,false,true,false] zea (zjq (Vector.setIfInBounds (Vector.setIfInBounds (Vector.setIfInBounds (Vector.replicate 3 (0:UInt32)) (0:Nat) h_0_Time) (1:Nat) h_0_Bits) (2:Nat) h_0_Nonce) (0:Int)  s1 ) (fnK zcq zfD zc6 Q)))))))):=by kernel_rfl
theorem zDs {k:Nat} (h_0_Prev:Vector UInt8 32) (h_0_Root:Vector UInt8 32) (h_0_Time:UInt32) (h_0_Bits:UInt32) (h_0_Nonce:UInt32) {r} {Q:CallOut→Prop} (h:head_Put k h_0_Prev h_0_Root h_0_Time h_0_Bits h_0_Nonce=some r) (hQ:Q (zeK r)):zab zcq zda zfD zc6 zea [.pv (.st [.arr .u8 32 h_0_Prev,.arr .u8 32 h_0_Root,.sc .u32 h_0_Time,.sc .u32 h_0_Bits,.sc .u32 h_0_Nonce])] [] Q :=
  Eq.mpr (zDh h_0_Prev h_0_Root h_0_Time h_0_Bits h_0_Nonce Q) (have h:=(head_Put.eq_1 k h_0_Prev h_0_Root h_0_Time h_0_Bits h_0_Nonce).symm.trans h; ⟨by decide +kernel,⟨by decide +kernel,zad h fun hc0 h=>⟨by decide +kernel,zad h fun hc1 h=>(zq0 hQ _) _ _ _ h⟩⟩⟩)
def zkY:Ans
  | [.pv (.st [.arr .u8 32 h_0_Prev,.arr .u8 32 h_0_Root,.sc .u32 h_0_Time,.sc .u32 h_0_Bits,.sc .u32 h_0_Nonce])],[]=>some (none,zeK (zix h_0_Prev h_0_Root h_0_Time h_0_Bits h_0_Nonce))
  | _,_=>none
theorem zzG:TblOK Tryd.prog theG zon:=.cons ⟨by kernel_rfl,zAo⟩ (.nil)
theorem zAN:FnOK Tryd.prog theG 43 (unW zkY):=by
  refine FnOK.ofC (T:=zon) (nt:=30) (np:=0) (mv:=[]) (nf:=false) (hs:=zc6) (fn:=Tryd.f43) (body:=zea) zzG (by kernel_rfl) (by kernel_rfl) (by kernel_rfl) (by kernel_rfl) (c:=zkY) (lv:=zda) ?_
  intro xs mem p out h hp
  unfold zkY at h
  split at h
  · cases h
    obtain ⟨k,hk⟩:=zw5 _ _ _ _ _
    exact zDs _ _ _ _ _ hk rfl
  · cases h
end
end Go.Proofs.YtnolgfdjcipmmaaDoor.M
namespace Go.Proofs.YtnolgfdjcipmmaaDoor.M
open Go
noncomputable section
set_option maxRecDepth 100000
set_option maxHeartbeats 0
noncomputable def zrg:Tbl:=[(43,[],zkY),(42,[],zjo)]
noncomputable def zyf:CfgW:=mkC Tryd.prog theG zrg 6 0 false
def zoP:Nat→List Nat:=fun i=>[]
noncomputable abbrev zrj:Code:=Tryd.f20.body.getD .skip
noncomputable abbrev zxJ:List ResultVar:=Tryd.f20.results.toList
def zoh:List Nat:=[]
def ziP (r:Vector UInt8 32):CallOut:=⟨.pv (.arr .u8 32 r),[],true,[]⟩
theorem zE5 (h_0_Prev:Vector UInt8 32) (h_0_Root:Vector UInt8 32) (h_0_Time:UInt32) (h_0_Bits:UInt32) (h_0_Nonce:UInt32) (Q:CallOut→Prop):zab zyf zoP zxJ zoh zrj [.pv (.st [.arr .u8 32 h_0_Prev,.arr .u8 32 h_0_Root,.sc .u32 h_0_Time,.sc .u32 h_0_Bits,.sc .u32 h_0_Nonce])] [] Q =
    (((List.length (zix h_0_Prev h_0_Root h_0_Time h_0_Bits h_0_Nonce))≤(1099511627776:Nat))∧(Q (ziP (zaQ (Vector.toList (zaQ (zix h_0_Prev h_0_Root h_0_Time h_0_Bits h_0_Nonce))))))):=by kernel_rfl
theorem zEX (h_0_Prev:Vector UInt8 32) (h_0_Root:Vector UInt8 32) (h_0_Time:UInt32) (h_0_Bits:UInt32) (h_0_Nonce:UInt32) {r} {Q:CallOut→Prop} (h:head_Id h_0_Prev h_0_Root h_0_Time h_0_Bits h_0_Nonce=some r) (hQ:Q (ziP r)):zab zyf zoP zxJ zoh zrj [.pv (.st [.arr .u8 32 h_0_Prev,.arr .u8 32 h_0_Root,.sc .u32 h_0_Time,.sc .u32 h_0_Bits,.sc .u32 h_0_Nonce])] [] Q :=
  Eq.mpr (zE5 h_0_Prev h_0_Root h_0_Time h_0_Bits h_0_Nonce Q) (have h:=(head_Id.eq_1 h_0_Prev h_0_Root h_0_Time h_0_Bits h_0_Nonce).symm.trans h; zad h fun hc0 h=>zam (Q:=Q) (e:=ziP) h hQ)
def zgb:Ans
  | [.pv (.st [.arr .u8 32 h_0_Prev,.arr .u8 32 h_0_Root,.sc .u32 h_0_Time,.sc .u32 h_0_Bits,.sc .u32 h_0_Nonce])],[]=>some (none,ziP (idV h_0_Prev h_0_Root h_0_Time h_0_Bits h_0_Nonce))
  | _,_=>none
theorem zBF:TblOK Tryd.prog theG zrg:=.cons ⟨by kernel_rfl,zAN⟩ (.cons ⟨by kernel_rfl,zyG⟩ (.nil))
theorem zkN:FnOK Tryd.prog theG 20 (unW zgb):=by
  refine FnOK.ofC (T:=zrg) (nt:=6) (np:=0) (mv:=[]) (nf:=false) (hs:=zoh) (fn:=Tryd.f20) (body:=zrj) zBF (by kernel_rfl) (by kernel_rfl) (by kernel_rfl) (by kernel_rfl) (c:=zgb) (lv:=zoP) ?_
  intro xs mem p out h hp
  unfold zgb at h
  split at h
  · cases h
    exact zEX _ _ _ _ _ (zyk _ _ _ _ _) rfl
  · cases h
end
end Go.Proofs.YtnolgfdjcipmmaaDoor.M
namespace Go.Proofs.YtnolgfdjcipmmaaDoor.M
open Go
noncomputable section
set_option maxRecDepth 100000
set_option maxHeartbeats 0
noncomputable def zkq:Tbl:=[]
noncomputable def zpd:CfgW:=mkC Tryd.prog theG zkq 2 0 false
def zjn:Nat→List Nat:=fun i=>[]
noncomputable abbrev zj2:Code:=Tryd.f19.body.getD .skip
noncomputable abbrev zph:List ResultVar:=Tryd.f19.results.toList
def zit:List Nat:=[]
def zew (r:Vector UInt8 32 × Vector UInt8 32 × UInt32 × UInt32 × UInt32):CallOut:=⟨.pv (.st [.arr .u8 32 r.1,.arr .u8 32 r.2.1,.sc .u32 r.2.2.1,.sc .u32 r.2.2.2.1,.sc .u32 r.2.2.2.2]),[],true,[]⟩
theorem zzj  (Q:CallOut→Prop):zab zpd zjn zph zit zj2 [] [] Q =
    (Q (zew ((Vector.replicate 32 (0:UInt8)),(Vector.replicate 32 (0:UInt8)),(0:UInt32),(545259519:UInt32),(0:UInt32)))):=by kernel_rfl
theorem zyC  {Q:CallOut→Prop} (h:Q (zew (head_Begin ))):zab zpd zjn zph zit zj2 [] [] Q :=
  Eq.mpr (zzj  Q) (have h:=Eq.mp (congrArg (fun r=>Q (zew r)) (head_Begin.eq_1 )) h; h)
def zgv:Ans
  | [],[]=>some (none,zew (head_Begin ))
  | _,_=>none
theorem ztI:TblOK Tryd.prog theG zkq:=.nil
theorem zxm:FnOK Tryd.prog theG 19 (unW zgv):=by
  refine FnOK.ofC (T:=zkq) (nt:=2) (np:=0) (mv:=[]) (nf:=false) (hs:=zit) (fn:=Tryd.f19) (body:=zj2) ztI (by kernel_rfl) (by kernel_rfl) (by kernel_rfl) (by kernel_rfl) (c:=zgv) (lv:=zjn) ?_
  intro xs mem p out h hp
  unfold zgv at h
  split at h
  · cases h
    exact zyC  rfl
  · cases h
end
end Go.Proofs.YtnolgfdjcipmmaaDoor.M
