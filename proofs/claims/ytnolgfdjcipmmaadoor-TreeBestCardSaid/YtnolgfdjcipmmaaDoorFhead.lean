/- Part of the proofs: what functions of the program do: plain functions, and the walks that show it. No condition. -/
import Derived.KernelRfl
import Derived.Test.YtnolgfdjcipmmaaDoorProg
import Derived.Test.YtnolgfdjcipmmaaDoorLe
import Derived.Test.YtnolgfdjcipmmaaDoorSwords
import Derived.Test.YtnolgfdjcipmmaaDoorSshaS
import Derived.Test.YtnolgfdjcipmmaaDoorSbigS
import Derived.Test.YtnolgfdjcipmmaaDoorSendS
import Derived.Test.YtnolgfdjcipmmaaDoorStarS
import Derived.Test.YtnolgfdjcipmmaaDoorFends
import Derived.Test.YtnolgfdjcipmmaaDoorFsha
import Derived.Test.YtnolgfdjcipmmaaDoorSshaK
set_option linter.unusedVariables false
set_option linter.unusedSimpArgs false
set_option autoImplicit false
namespace Go.Proofs.YtnolgfdjcipmmaaDoor.M
open Go
noncomputable section
def head_Begin  : Vector UInt8 32 × Vector UInt8 32 × UInt32 × UInt32 × UInt32 :=
 ((Vector.replicate 32 (0:UInt8)),(Vector.replicate 32 (0:UInt8)),(0:UInt32),(545259519:UInt32),(0:UInt32))
end
end Go.Proofs.YtnolgfdjcipmmaaDoor.M
namespace Go.Proofs.YtnolgfdjcipmmaaDoor.M
open Go
noncomputable section
def head_low (n:UInt32):List UInt8 :=
 (putL (UInt32.toUInt64 n) (4:Int))
theorem zwr (n:UInt32):head_low n=lowY n.toNat 4:=by
 rw[head_low,zwy]
end
end Go.Proofs.YtnolgfdjcipmmaaDoor.M
namespace Go.Proofs.YtnolgfdjcipmmaaDoor.M
open Go
noncomputable section
def head_Put_h0:Nat→(Vector UInt32 3)→Int→(List UInt8)→Option (List UInt8)
 | 0,_,_,_=>none
 | k+1,t20,t21,b=>bif decide (t21 < (3:Int)) then(if((0:Int)≤t21)∧(t21 < (3:Int)) then
    if(((List.length (b++(lowY (UInt32.toNat (List.getD (Vector.toList t20) (Int.toNat t21) (0:UInt32))) (4:Nat))))*(1:Nat))≤(70368744177664:Nat))∧((List.length (b++(lowY (UInt32.toNat (List.getD (Vector.toList t20) (Int.toNat t21) (0:UInt32))) (4:Nat))))≤(70368744177664:Nat)) then
     head_Put_h0 k t20 (w64 (t21+(1:Int))) (b++(lowY (UInt32.toNat (List.getD (Vector.toList t20) (Int.toNat t21) (0:UInt32))) (4:Nat)))
    else none
   else none)
   else(some b)
def head_Put (k:Nat) (h_0_Prev:Vector UInt8 32) (h_0_Root:Vector UInt8 32) (h_0_Time:UInt32) (h_0_Bits:UInt32) (h_0_Nonce:UInt32):Option (List UInt8) :=
 if(
   ((List.length ((List.replicate (0:Nat) (0:UInt8))++(List.take ((Int.toNat (32:Int)) - (Int.toNat (0:Int))) (List.drop (Int.toNat (0:Int)) (Vector.toList h_0_Prev)))))*(1:Nat))≤(70368744177664:Nat))∧((List.length ((List.replicate (0:Nat) (0:UInt8))++(List.take ((Int.toNat (32:Int)) - (Int.toNat (0:Int))) (List.drop (Int.toNat (0:Int)) (Vector.toList h_0_Prev)))))≤(70368744177664:Nat)) then
  if(((List.length (((List.replicate (0:Nat) (0:UInt8))++(List.take ((Int.toNat (32:Int)) - (Int.toNat (0:Int))) (List.drop (Int.toNat (0:Int)) (Vector.toList h_0_Prev))))++(List.take ((Int.toNat (32:Int)) - (Int.toNat (0:Int))) (List.drop (Int.toNat (0:Int)) (Vector.toList h_0_Root)))))*(1:Nat))≤(70368744177664:Nat))∧((List.length (((List.replicate (0:Nat) (0:UInt8))++(List.take ((Int.toNat (32:Int)) - (Int.toNat (0:Int))) (List.drop (Int.toNat (0:Int)) (Vector.toList h_0_Prev))))++(List.take ((Int.toNat (32:Int)) - (Int.toNat (0:Int))) (List.drop (Int.toNat (0:Int)) (Vector.toList h_0_Root)))))≤(70368744177664:Nat)) then
   head_Put_h0 k (Vector.setIfInBounds (Vector.setIfInBounds (Vector.setIfInBounds (Vector.replicate 3 (0:UInt32)) (0:Nat) h_0_Time) (1:Nat) h_0_Bits) (2:Nat) h_0_Nonce) (0:Int) (((List.replicate (0:Nat) (0:UInt8))++(List.take ((Int.toNat (32:Int)) - (Int.toNat (0:Int))) (List.drop (Int.toNat (0:Int)) (Vector.toList h_0_Prev))))++(List.take ((Int.toNat (32:Int)) - (Int.toNat (0:Int))) (List.drop (Int.toNat (0:Int)) (Vector.toList h_0_Root))))
  else none
 else none
theorem zxU (p r:Vector UInt8 32) (t b n:UInt32):Ev (fun k=>head_Put k p r t b n) (zi7 p r t b n):=by
 have tp:∀ v:Vector UInt8 32,List.take (Int.toNat (32:Int) - Int.toNat (0:Int)) (List.drop (Int.toNat (0:Int)) (Vector.toList v))=Vector.toList v:=zID
 have l0:=zfK t.toNat 4
 have l1:=zfK b.toNat 4
 have l2:=zfK n.toNat 4
 have g0:List.getD (Vector.toList (Vector.setIfInBounds (Vector.setIfInBounds (Vector.setIfInBounds (Vector.replicate 3 (0:UInt32)) 0 t) 1 b) 2 n)) 0 0=t:=rfl
 have g1:List.getD (Vector.toList (Vector.setIfInBounds (Vector.setIfInBounds (Vector.setIfInBounds (Vector.replicate 3 (0:UInt32)) 0 t) 1 b) 2 n)) 1 0=b:=rfl
 have g2:List.getD (Vector.toList (Vector.setIfInBounds (Vector.setIfInBounds (Vector.setIfInBounds (Vector.replicate 3 (0:UInt32)) 0 t) 1 b) 2 n)) 2 0=n:=rfl
 have w1:w64 ((0:Int)+1)=1:=by decide
 have w2:w64 ((1:Int)+1)=2:=by decide
 have w3:w64 ((2:Int)+1)=3:=by decide
 refine ⟨4,?_⟩
 show head_Put 4 p r t b n=_
 have hp:(Vector.toList p).length=32:=by simp
 have hr:(Vector.toList r).length=32:=by simp
 rw[head_Put,tp,tp,List.replicate_zero,List.nil_append,if_pos (by omega),if_pos (by rw[List.length_append]; omega)]
 rw[head_Put_h0,decide_eq_true (by decide),cond_true,if_pos (by decide),show Int.toNat 0=0 from rfl,g0,if_pos (by rw[List.length_append,List.length_append]; omega),w1]
 rw[head_Put_h0,decide_eq_true (by decide),cond_true,if_pos (by decide),show Int.toNat 1=1 from rfl,g1,if_pos (by rw[List.length_append,List.length_append,List.length_append]; omega),w2]
 rw[head_Put_h0,decide_eq_true (by decide),cond_true,if_pos (by decide),show Int.toNat 2=2 from rfl,g2,if_pos (by rw[List.length_append,List.length_append,List.length_append,List.length_append]; omega),w3]
 rw[head_Put_h0,decide_eq_false (by decide),cond_false,zlR]
end
end Go.Proofs.YtnolgfdjcipmmaaDoor.M
namespace Go.Proofs.YtnolgfdjcipmmaaDoor.M
open Go
noncomputable section
def head_Id (h_0_Prev:Vector UInt8 32) (h_0_Root:Vector UInt8 32) (h_0_Time:UInt32) (h_0_Bits:UInt32) (h_0_Nonce:UInt32):Option (Vector UInt8 32) :=
 if(List.length (zi7 h_0_Prev h_0_Root h_0_Time h_0_Bits h_0_Nonce))≤(1099511627776:Nat) then
  some (za4 (Vector.toList (za4 (zi7 h_0_Prev h_0_Root h_0_Time h_0_Bits h_0_Nonce))))
 else none
theorem zyJ (p r:Vector UInt8 32) (t b n:UInt32):head_Id p r t b n=some (idV p r t b n):=by
 rw[head_Id,if_pos (by rw[zzC]; omega),zyF]
end
end Go.Proofs.YtnolgfdjcipmmaaDoor.M
namespace Go.Proofs.YtnolgfdjcipmmaaDoor.M
open Go
noncomputable section
set_option maxRecDepth 100000
set_option maxHeartbeats 0
noncomputable def zk4:Tbl:=[]
noncomputable def zqn:CfgW:=mkC Tryd.prog theG zk4 2 0 false
def ziX:Nat→List Nat:=fun i=>[]
noncomputable abbrev zku:Code:=Tryd.f19.body.getD .skip
noncomputable abbrev zqo:List ResultVar:=Tryd.f19.results.toList
def zjf:List Nat:=[]
def zfI (r:Vector UInt8 32 × Vector UInt8 32 × UInt32 × UInt32 × UInt32):CallOut:=⟨.pv (.st [.arr .u8 32 r.1,.arr .u8 32 r.2.1,.sc .u32 r.2.2.1,.sc .u32 r.2.2.2.1,.sc .u32 r.2.2.2.2]),[],true,[]⟩
theorem zyV  (Q:CallOut→Prop):zac zqn ziX zqo zjf zku [] [] Q =
  (Q (zfI ((Vector.replicate 32 (0:UInt8)),(Vector.replicate 32 (0:UInt8)),(0:UInt32),(545259519:UInt32),(0:UInt32)))):=by kernel_rfl
theorem zza  {Q:CallOut→Prop} (h:Q (zfI (head_Begin ))):zac zqn ziX zqo zjf zku [] [] Q :=
 Eq.mpr (zyV  Q) (have h:=Eq.mp (congrArg (fun r=>Q (zfI r)) (head_Begin.eq_1 )) h; h)
def zhI:Ans
 | [],[]=>some (none,zfI (head_Begin ))
 | _,_=>none
theorem zun:TblOK Tryd.prog theG zk4:=.nil
theorem zwH:FnOK Tryd.prog theG 19 (unW zhI):=by
 refine FnOK.ofC (T:=zk4) (nt:=2) (np:=0) (mv:=[]) (nf:=false) (hs:=zjf) (fn:=Tryd.f19) (body:=zku) zun (by kernel_rfl) (by kernel_rfl) (by kernel_rfl) (by kernel_rfl) (c:=zhI) (lv:=ziX) ?_
 intro xs mem p out h hp
 unfold zhI at h
 split at h
 ·cases h
  exact zza  rfl
 ·cases h
end
end Go.Proofs.YtnolgfdjcipmmaaDoor.M
namespace Go.Proofs.YtnolgfdjcipmmaaDoor.M
open Go
noncomputable section
set_option maxRecDepth 100000
set_option maxHeartbeats 0
noncomputable def zpe:Tbl:=[(78,[],zlQ)]
noncomputable def zvp:CfgW:=mkC Tryd.prog theG zpe 12 0 false
def zmm:Nat→List Nat:=fun i=>[]
noncomputable abbrev zoV:Code:=Tryd.f61.body.getD .skip
noncomputable abbrev zvY:List ResultVar:=Tryd.f61.results.toList
def znA:List Nat:=[]
def zgc (r:List UInt8):CallOut:=⟨.o 60000,[(60000,.row (.s .u8 r) false)],true,[]⟩
theorem zEq (n:UInt32) (Q:CallOut→Prop):zac zvp zmm zvY znA zoV [.pv (.sc .u32 n)] [] Q =
  (Q (zgc (putL (UInt32.toUInt64 n) (4:Int)))):=by kernel_rfl
theorem zFi (n:UInt32) {Q:CallOut→Prop} (h:Q (zgc (head_low n))):zac zvp zmm zvY znA zoV [.pv (.sc .u32 n)] [] Q :=
 Eq.mpr (zEq n Q) (have h:=Eq.mp (congrArg (fun r=>Q (zgc r)) (head_low.eq_1 n)) h; h)
def zlA:Ans
 | [.pv (.sc .u32 n)],[]=>some (none,zgc (lowY n.toNat 4))
 | _,_=>none
theorem zyG:TblOK Tryd.prog theG zpe:=.cons ⟨by kernel_rfl,zCO⟩ (.nil)
theorem zC0:FnOK Tryd.prog theG 61 (unW zlA):=by
 refine FnOK.ofC (T:=zpe) (nt:=12) (np:=0) (mv:=[]) (nf:=false) (hs:=znA) (fn:=Tryd.f61) (body:=zoV) zyG (by kernel_rfl) (by kernel_rfl) (by kernel_rfl) (by kernel_rfl) (c:=zlA) (lv:=zmm) ?_
 intro xs mem p out h hp
 unfold zlA at h
 split at h
 ·cases h
  exact zFi _ (congrArg zgc (zwr _))
 ·cases h
end
end Go.Proofs.YtnolgfdjcipmmaaDoor.M
namespace Go.Proofs.YtnolgfdjcipmmaaDoor.M
open Go
noncomputable section
set_option maxRecDepth 100000
set_option maxHeartbeats 0
noncomputable def zpy:Tbl:=[(61,[],zlA)]
noncomputable def zdx:CfgW:=mkC Tryd.prog theG zpy 30 0 false
def zer:Nat→List Nat:=fun i=>bif Nat.beq i 0 then [3,20,21]else []
noncomputable abbrev zfc:Code:=Tryd.f43.body.getD .skip
noncomputable abbrev zgQ:List ResultVar:=Tryd.f43.results.toList
def zeB:List Nat:=[]
def zgg (r:List UInt8):CallOut:=⟨.o 60000,[(60000,.row (.s .u8 r) false)],true,[]⟩
def zjl (t20:Vector UInt32 3) (t21:Int) (b:List UInt8):St:=⟨[(3,.o 60000),(20,.pv (.arr .u32 3 t20)),(21,.pv (.sc .i t21))],[(60000,.row (.s .u8 b) false)]⟩
theorem zCC (t20:Vector UInt32 3) (t21:Int) (b:List UInt8) (Q:CallOut→Prop):zas zdx zer [true,true,true,false,true,false] zfc (zjl t20 t21 b) (fnK zdx zgQ zeB Q) =
  (zaf (decide (t21 < (3:Int))) ((((0:Int)≤t21)∧(t21 < (3:Int)))∧(((((List.length (b++(lowY (UInt32.toNat (List.getD (Vector.toList t20) (Int.toNat t21) (0:UInt32))) (4:Nat))))*(1:Nat))≤(70368744177664:Nat))∧((List.length (b++(lowY (UInt32.toNat (List.getD (Vector.toList t20) (Int.toNat t21) (0:UInt32))) (4:Nat))))≤(70368744177664:Nat)))∧(zah zdx zer [true,true,true,false,true,false] zfc (zjl t20 (w64 (t21+(1:Int))) (b++(lowY (UInt32.toNat (List.getD (Vector.toList t20) (Int.toNat t21) (0:UInt32))) (4:Nat)))) (fnK zdx zgQ zeB Q)))) (Q (zgg b))):=by kernel_rfl
theorem zsw {r:List UInt8} {Q:CallOut→Prop} (hQ:Q (zgg r)):∀ k:Nat,(∀ (t20:Vector UInt32 3) (t21:Int) (b:List UInt8),head_Put_h0 k t20 t21 b=some r→zah zdx zer [true,true,true,false,true,false] zfc (zjl t20 t21 b) (fnK zdx zgQ zeB Q))
 | 0=>fun _ _ _ h=>zb9 h
 | k+1=>fun t20 t21 b h=>zal (Eq.mpr (zCC t20 t21 b Q) (have h:=(head_Put_h0.eq_2 t20 t21 b k).symm.trans h; zab h (fun h=>zad h fun hc0 h=>zad h fun hc1 h=>(zsw hQ k) _ _ _ h) (fun h=>zag (Q:=Q) (e:=zgg) h hQ)))
theorem zE5 (h_0_Prev:Vector UInt8 32) (h_0_Root:Vector UInt8 32) (h_0_Time:UInt32) (h_0_Bits:UInt32) (h_0_Nonce:UInt32) (Q:CallOut→Prop):zac zdx zer zgQ zeB zfc [.pv (.st [.arr .u8 32 h_0_Prev,.arr .u8 32 h_0_Root,.sc .u32 h_0_Time,.sc .u32 h_0_Bits,.sc .u32 h_0_Nonce])] [] Q =
 (let s0:=((List.replicate (0:Nat) (0:UInt8))++(List.take ((Int.toNat (32:Int)) - (Int.toNat (0:Int))) (List.drop (Int.toNat (0:Int)) (Vector.toList h_0_Prev))));let s1:=( s0 ++(List.take ((Int.toNat (32:Int)) - (Int.toNat (0:Int))) (List.drop (Int.toNat (0:Int)) (Vector.toList h_0_Root))));((((0:Int)≤(0:Int))∧(((0:Int)≤(76:Int))∧((((76:Int)*(((1:Nat):Nat):Int))≤(((70368744177664:Nat):Nat):Int))∧((76:Int)≤((2:Int) ^ (62:Nat))))))∧((((0:Int)≤(0:Int))∧(((0:Int)≤(32:Int))∧((32:Int)≤(((32:Nat):Nat):Int))))∧(((((List.length  s0 )*(1:Nat))≤(70368744177664:Nat))∧((List.length  s0 )≤(70368744177664:Nat)))∧((((0:Int)≤(0:Int))∧(((0:Int)≤(32:Int))∧((32:Int)≤(((32:Nat):Nat):Int))))∧(((((List.length  s1 )*(1:Nat))≤(70368744177664:Nat))∧((List.length  s1 )≤(70368744177664:Nat)))∧(zah zdx zer [true,true,true,false,true,false] zfc (zjl (Vector.setIfInBounds (Vector.setIfInBounds (Vector.setIfInBounds (Vector.replicate 3 (0:UInt32)) (0:Nat) h_0_Time) (1:Nat) h_0_Bits) (2:Nat) h_0_Nonce) (0:Int)  s1 ) (fnK zdx zgQ zeB Q)))))))):=by kernel_rfl
theorem zEG {k:Nat} (h_0_Prev:Vector UInt8 32) (h_0_Root:Vector UInt8 32) (h_0_Time:UInt32) (h_0_Bits:UInt32) (h_0_Nonce:UInt32) {r} {Q:CallOut→Prop} (h:head_Put k h_0_Prev h_0_Root h_0_Time h_0_Bits h_0_Nonce=some r) (hQ:Q (zgg r)):zac zdx zer zgQ zeB zfc [.pv (.st [.arr .u8 32 h_0_Prev,.arr .u8 32 h_0_Root,.sc .u32 h_0_Time,.sc .u32 h_0_Bits,.sc .u32 h_0_Nonce])] [] Q :=
 Eq.mpr (zE5 h_0_Prev h_0_Root h_0_Time h_0_Bits h_0_Nonce Q) (have h:=(head_Put.eq_1 k h_0_Prev h_0_Root h_0_Time h_0_Bits h_0_Nonce).symm.trans h; ⟨by decide +kernel,⟨by decide +kernel,zad h fun hc0 h=>⟨by decide +kernel,zad h fun hc1 h=>(zsw hQ _) _ _ _ h⟩⟩⟩)
def zlz:Ans
 | [.pv (.st [.arr .u8 32 h_0_Prev,.arr .u8 32 h_0_Root,.sc .u32 h_0_Time,.sc .u32 h_0_Bits,.sc .u32 h_0_Nonce])],[]=>some (none,zgg (zi7 h_0_Prev h_0_Root h_0_Time h_0_Bits h_0_Nonce))
 | _,_=>none
theorem zAo:TblOK Tryd.prog theG zpy:=.cons ⟨by kernel_rfl,zC0⟩ (.nil)
theorem zCI:FnOK Tryd.prog theG 43 (unW zlz):=by
 refine FnOK.ofC (T:=zpy) (nt:=30) (np:=0) (mv:=[]) (nf:=false) (hs:=zeB) (fn:=Tryd.f43) (body:=zfc) zAo (by kernel_rfl) (by kernel_rfl) (by kernel_rfl) (by kernel_rfl) (c:=zlz) (lv:=zer) ?_
 intro xs mem p out h hp
 unfold zlz at h
 split at h
 ·cases h
  obtain ⟨k,hk⟩:=zxU _ _ _ _ _
  exact zEG _ _ _ _ _ hk rfl
 ·cases h
end
end Go.Proofs.YtnolgfdjcipmmaaDoor.M
namespace Go.Proofs.YtnolgfdjcipmmaaDoor.M
open Go
noncomputable section
set_option maxRecDepth 100000
set_option maxHeartbeats 0
noncomputable def ztd:Tbl:=[(43,[],zlz),(42,[],zjx)]
noncomputable def zAm:CfgW:=mkC Tryd.prog theG ztd 6 0 false
def zpj:Nat→List Nat:=fun i=>[]
noncomputable abbrev zsc:Code:=Tryd.f20.body.getD .skip
noncomputable abbrev zAN:List ResultVar:=Tryd.f20.results.toList
def zo4:List Nat:=[]
def ziN (r:Vector UInt8 32):CallOut:=⟨.pv (.arr .u8 32 r),[],true,[]⟩
theorem zFJ (h_0_Prev:Vector UInt8 32) (h_0_Root:Vector UInt8 32) (h_0_Time:UInt32) (h_0_Bits:UInt32) (h_0_Nonce:UInt32) (Q:CallOut→Prop):zac zAm zpj zAN zo4 zsc [.pv (.st [.arr .u8 32 h_0_Prev,.arr .u8 32 h_0_Root,.sc .u32 h_0_Time,.sc .u32 h_0_Bits,.sc .u32 h_0_Nonce])] [] Q =
  (((List.length (zi7 h_0_Prev h_0_Root h_0_Time h_0_Bits h_0_Nonce))≤(1099511627776:Nat))∧(Q (ziN (za4 (Vector.toList (za4 (zi7 h_0_Prev h_0_Root h_0_Time h_0_Bits h_0_Nonce))))))):=by kernel_rfl
theorem zHk (h_0_Prev:Vector UInt8 32) (h_0_Root:Vector UInt8 32) (h_0_Time:UInt32) (h_0_Bits:UInt32) (h_0_Nonce:UInt32) {r} {Q:CallOut→Prop} (h:head_Id h_0_Prev h_0_Root h_0_Time h_0_Bits h_0_Nonce=some r) (hQ:Q (ziN r)):zac zAm zpj zAN zo4 zsc [.pv (.st [.arr .u8 32 h_0_Prev,.arr .u8 32 h_0_Root,.sc .u32 h_0_Time,.sc .u32 h_0_Bits,.sc .u32 h_0_Nonce])] [] Q :=
 Eq.mpr (zFJ h_0_Prev h_0_Root h_0_Time h_0_Bits h_0_Nonce Q) (have h:=(head_Id.eq_1 h_0_Prev h_0_Root h_0_Time h_0_Bits h_0_Nonce).symm.trans h; zad h fun hc0 h=>zag (Q:=Q) (e:=ziN) h hQ)
def zkj:Ans
 | [.pv (.st [.arr .u8 32 h_0_Prev,.arr .u8 32 h_0_Root,.sc .u32 h_0_Time,.sc .u32 h_0_Bits,.sc .u32 h_0_Nonce])],[]=>some (none,ziN (idV h_0_Prev h_0_Root h_0_Time h_0_Bits h_0_Nonce))
 | _,_=>none
theorem zCm:TblOK Tryd.prog theG ztd:=.cons ⟨by kernel_rfl,zCI⟩ (.cons ⟨by kernel_rfl,zzI⟩ (.nil))
theorem zv5:FnOK Tryd.prog theG 20 (unW zkj):=by
 refine FnOK.ofC (T:=ztd) (nt:=6) (np:=0) (mv:=[]) (nf:=false) (hs:=zo4) (fn:=Tryd.f20) (body:=zsc) zCm (by kernel_rfl) (by kernel_rfl) (by kernel_rfl) (by kernel_rfl) (c:=zkj) (lv:=zpj) ?_
 intro xs mem p out h hp
 unfold zkj at h
 split at h
 ·cases h
  exact zHk _ _ _ _ _ (zyJ _ _ _ _ _) rfl
 ·cases h
end
end Go.Proofs.YtnolgfdjcipmmaaDoor.M
