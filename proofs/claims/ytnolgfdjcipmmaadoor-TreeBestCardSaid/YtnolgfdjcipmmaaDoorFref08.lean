/- Part of the proofs: what functions of the program do: plain functions, and the walks that show it. No condition. -/
import Derived.KernelRfl
import Derived.Test.YtnolgfdjcipmmaaDoorProg
import Derived.Test.YtnolgfdjcipmmaaDoorLe
import Derived.Test.YtnolgfdjcipmmaaDoorSwords
import Derived.Test.YtnolgfdjcipmmaaDoorSshaS
import Derived.Test.YtnolgfdjcipmmaaDoorSbigS
import Derived.Test.YtnolgfdjcipmmaaDoorSendS
import Derived.Test.YtnolgfdjcipmmaaDoorStarS
import Derived.Test.YtnolgfdjcipmmaaDoorFref02
import Derived.Test.YtnolgfdjcipmmaaDoorFref01
import Derived.Test.YtnolgfdjcipmmaaDoorSshaK
set_option linter.unusedVariables false
set_option linter.unusedSimpArgs false
set_option autoImplicit false
namespace Go.Proofs.YtnolgfdjcipmmaaDoor.M
open Go
noncomputable section
def ref08_Begin  : Vector UInt8 32 × Vector UInt8 32 × UInt32 × UInt32 × UInt32 :=
 ((Vector.replicate 32 (0:UInt8)),(Vector.replicate 32 (0:UInt8)),(0:UInt32),(545259519:UInt32),(0:UInt32))
end
end Go.Proofs.YtnolgfdjcipmmaaDoor.M
namespace Go.Proofs.YtnolgfdjcipmmaaDoor.M
open Go
noncomputable section
def ref08_Put (h_0_Prev:Vector UInt8 32) (h_0_Root:Vector UInt8 32) (h_0_Time:UInt32) (h_0_Bits:UInt32) (h_0_Nonce:UInt32):Option (List UInt8) :=
 if(
   ((
    List.length ((Vector.toList h_0_Prev)++(Vector.toList h_0_Root)))*(1:Nat))≤(70368744177664:Nat))∧((List.length ((Vector.toList h_0_Prev)++(Vector.toList h_0_Root)))≤(70368744177664:Nat)) then
  if(
    ((
     List.length (((Vector.toList h_0_Prev)++(Vector.toList h_0_Root))++(putL (UInt32.toUInt64 h_0_Time) (4:Int))))*(1:Nat))≤(70368744177664:Nat))∧((List.length (((Vector.toList h_0_Prev)++(Vector.toList h_0_Root))++(putL (UInt32.toUInt64 h_0_Time) (4:Int))))≤(70368744177664:Nat)) then
   if(
     ((List.length ((((Vector.toList h_0_Prev)++(Vector.toList h_0_Root))++(putL (UInt32.toUInt64 h_0_Time) (4:Int)))++(putL (UInt32.toUInt64 h_0_Bits) (4:Int))))*(1:Nat))≤(70368744177664:Nat))∧((List.length ((((Vector.toList h_0_Prev)++(Vector.toList h_0_Root))++(putL (UInt32.toUInt64 h_0_Time) (4:Int)))++(putL (UInt32.toUInt64 h_0_Bits) (4:Int))))≤(70368744177664:Nat)) then
    if(((List.length (((((Vector.toList h_0_Prev)++(Vector.toList h_0_Root))++(putL (UInt32.toUInt64 h_0_Time) (4:Int)))++(putL (UInt32.toUInt64 h_0_Bits) (4:Int)))++(putL (UInt32.toUInt64 h_0_Nonce) (4:Int))))*(1:Nat))≤(70368744177664:Nat))∧((List.length (((((Vector.toList h_0_Prev)++(Vector.toList h_0_Root))++(putL (UInt32.toUInt64 h_0_Time) (4:Int)))++(putL (UInt32.toUInt64 h_0_Bits) (4:Int)))++(putL (UInt32.toUInt64 h_0_Nonce) (4:Int))))≤(70368744177664:Nat)) then
     some (((((Vector.toList h_0_Prev)++(Vector.toList h_0_Root))++(putL (UInt32.toUInt64 h_0_Time) (4:Int)))++(putL (UInt32.toUInt64 h_0_Bits) (4:Int)))++(putL (UInt32.toUInt64 h_0_Nonce) (4:Int)))
    else none
   else none
  else none
 else none
theorem ztR (p r:Vector UInt8 32) (t b n:UInt32):ref08_Put p r t b n=some (zi7 p r t b n):=by
 have l0:=zfK t.toNat 4
 have l1:=zfK b.toNat 4
 have l2:=zfK n.toNat 4
 have hp:(Vector.toList p).length=32:=by simp
 have hr:(Vector.toList r).length=32:=by simp
 rw[ref08_Put,zwy,zwy,zwy,zlR]
 simp only[List.length_append]
 rw[if_pos (by omega),if_pos (by omega),if_pos (by omega),if_pos (by omega)]
end
end Go.Proofs.YtnolgfdjcipmmaaDoor.M
namespace Go.Proofs.YtnolgfdjcipmmaaDoor.M
open Go
noncomputable section
def ref08_Id (h_0_Prev:Vector UInt8 32) (h_0_Root:Vector UInt8 32) (h_0_Time:UInt32) (h_0_Bits:UInt32) (h_0_Nonce:UInt32):Option (Vector UInt8 32) :=
 if(List.length (zi7 h_0_Prev h_0_Root h_0_Time h_0_Bits h_0_Nonce))≤(1099511627776:Nat) then
  some (za4 (Vector.toList (za4 (zi7 h_0_Prev h_0_Root h_0_Time h_0_Bits h_0_Nonce))))
 else none
theorem zx6 (p r:Vector UInt8 32) (t b n:UInt32):ref08_Id p r t b n=some (idV p r t b n):=by
 rw[ref08_Id,if_pos (by rw[zzC]; omega),zyF]
end
end Go.Proofs.YtnolgfdjcipmmaaDoor.M
namespace Go.Proofs.YtnolgfdjcipmmaaDoor.M
open Go
noncomputable section
set_option maxRecDepth 100000
set_option maxHeartbeats 0
noncomputable def zjc:Tbl:=[]
noncomputable def zoy:CfgW:=mkC Tryd.prog theG zjc 2 0 false
def zh3:Nat→List Nat:=fun i=>[]
noncomputable abbrev zjP:Code:=Tryd.f22.body.getD .skip
noncomputable abbrev znG:List ResultVar:=Tryd.f22.results.toList
def zh1:List Nat:=[]
def zeY (r:Vector UInt8 32 × Vector UInt8 32 × UInt32 × UInt32 × UInt32):CallOut:=⟨.pv (.st [.arr .u8 32 r.1,.arr .u8 32 r.2.1,.sc .u32 r.2.2.1,.sc .u32 r.2.2.2.1,.sc .u32 r.2.2.2.2]),[],true,[]⟩
theorem zwK  (Q:CallOut→Prop):zac zoy zh3 znG zh1 zjP [] [] Q =
  (Q (zeY ((Vector.replicate 32 (0:UInt8)),(Vector.replicate 32 (0:UInt8)),(0:UInt32),(545259519:UInt32),(0:UInt32)))):=by kernel_rfl
theorem zxf  {Q:CallOut→Prop} (h:Q (zeY (ref08_Begin ))):zac zoy zh3 znG zh1 zjP [] [] Q :=
 Eq.mpr (zwK  Q) (have h:=Eq.mp (congrArg (fun r=>Q (zeY r)) (ref08_Begin.eq_1 )) h; h)
def ze7:Ans
 | [],[]=>some (none,zeY (ref08_Begin ))
 | _,_=>none
theorem zsh:TblOK Tryd.prog theG zjc:=.nil
theorem zmj:FnOK Tryd.prog theG 22 (unW ze7):=by
 refine FnOK.ofC (T:=zjc) (nt:=2) (np:=0) (mv:=[]) (nf:=false) (hs:=zh1) (fn:=Tryd.f22) (body:=zjP) zsh (by kernel_rfl) (by kernel_rfl) (by kernel_rfl) (by kernel_rfl) (c:=ze7) (lv:=zh3) ?_
 intro xs mem p out h hp
 unfold ze7 at h
 split at h
 ·cases h
  exact zxf  rfl
 ·cases h
end
end Go.Proofs.YtnolgfdjcipmmaaDoor.M
namespace Go.Proofs.YtnolgfdjcipmmaaDoor.M
open Go
noncomputable section
set_option maxRecDepth 100000
set_option maxHeartbeats 0
noncomputable def zmq:Tbl:=[(70,[],zfX),(71,[],zjs)]
noncomputable def zs3:CfgW:=mkC Tryd.prog theG zmq 45 0 false
def zkQ:Nat→List Nat:=fun i=>[]
noncomputable abbrev zm6:Code:=Tryd.f49.body.getD .skip
noncomputable abbrev zrv:List ResultVar:=Tryd.f49.results.toList
def zkg:List Nat:=[]
def zgC (r:List UInt8):CallOut:=⟨.o 60000,[(60000,.row (.s .u8 r) false)],true,[]⟩
theorem zCu (h_0_Prev:Vector UInt8 32) (h_0_Root:Vector UInt8 32) (h_0_Time:UInt32) (h_0_Bits:UInt32) (h_0_Nonce:UInt32) (Q:CallOut→Prop):zac zs3 zkQ zrv zkg zm6 [.pv (.st [.arr .u8 32 h_0_Prev,.arr .u8 32 h_0_Root,.sc .u32 h_0_Time,.sc .u32 h_0_Bits,.sc .u32 h_0_Nonce])] [] Q =
 (let s0:=(((Vector.toList h_0_Prev)++(Vector.toList h_0_Root))++(putL (UInt32.toUInt64 h_0_Time) (4:Int)));let s1:=(( s0 ++(putL (UInt32.toUInt64 h_0_Bits) (4:Int)))++(putL (UInt32.toUInt64 h_0_Nonce) (4:Int)));(((((List.length ((Vector.toList h_0_Prev)++(Vector.toList h_0_Root)))*(1:Nat))≤(70368744177664:Nat))∧((List.length ((Vector.toList h_0_Prev)++(Vector.toList h_0_Root)))≤(70368744177664:Nat)))∧(((((List.length  s0 )*(1:Nat))≤(70368744177664:Nat))∧((List.length  s0 )≤(70368744177664:Nat)))∧(((((List.length ( s0 ++(putL (UInt32.toUInt64 h_0_Bits) (4:Int))))*(1:Nat))≤(70368744177664:Nat))∧((List.length ( s0 ++(putL (UInt32.toUInt64 h_0_Bits) (4:Int))))≤(70368744177664:Nat)))∧(((((List.length  s1 )*(1:Nat))≤(70368744177664:Nat))∧((List.length  s1 )≤(70368744177664:Nat)))∧(Q (zgC  s1 ))))))):=by kernel_rfl
theorem zCZ (h_0_Prev:Vector UInt8 32) (h_0_Root:Vector UInt8 32) (h_0_Time:UInt32) (h_0_Bits:UInt32) (h_0_Nonce:UInt32) {r} {Q:CallOut→Prop} (h:ref08_Put h_0_Prev h_0_Root h_0_Time h_0_Bits h_0_Nonce=some r) (hQ:Q (zgC r)):zac zs3 zkQ zrv zkg zm6 [.pv (.st [.arr .u8 32 h_0_Prev,.arr .u8 32 h_0_Root,.sc .u32 h_0_Time,.sc .u32 h_0_Bits,.sc .u32 h_0_Nonce])] [] Q :=
 Eq.mpr (zCu h_0_Prev h_0_Root h_0_Time h_0_Bits h_0_Nonce Q) (have h:=(ref08_Put.eq_1 h_0_Prev h_0_Root h_0_Time h_0_Bits h_0_Nonce).symm.trans h; zad h fun hc0 h=>zad h fun hc1 h=>zad h fun hc2 h=>zad h fun hc3 h=>zag (Q:=Q) (e:=zgC) h hQ)
def zjR:Ans
 | [.pv (.st [.arr .u8 32 h_0_Prev,.arr .u8 32 h_0_Root,.sc .u32 h_0_Time,.sc .u32 h_0_Bits,.sc .u32 h_0_Nonce])],[]=>some (none,zgC (zi7 h_0_Prev h_0_Root h_0_Time h_0_Bits h_0_Nonce))
 | _,_=>none
theorem zxL:TblOK Tryd.prog theG zmq:=.cons ⟨by kernel_rfl,zn2⟩ (.cons ⟨by kernel_rfl,zyw⟩ (.nil))
theorem zzn:FnOK Tryd.prog theG 49 (unW zjR):=by
 refine FnOK.ofC (T:=zmq) (nt:=45) (np:=0) (mv:=[]) (nf:=false) (hs:=zkg) (fn:=Tryd.f49) (body:=zm6) zxL (by kernel_rfl) (by kernel_rfl) (by kernel_rfl) (by kernel_rfl) (c:=zjR) (lv:=zkQ) ?_
 intro xs mem p out h hp
 unfold zjR at h
 split at h
 ·cases h
  exact zCZ _ _ _ _ _ (ztR _ _ _ _ _) rfl
 ·cases h
end
end Go.Proofs.YtnolgfdjcipmmaaDoor.M
namespace Go.Proofs.YtnolgfdjcipmmaaDoor.M
open Go
noncomputable section
set_option maxRecDepth 100000
set_option maxHeartbeats 0
noncomputable def zpL:Tbl:=[(49,[],zjR),(48,[],zgu)]
noncomputable def zvh:CfgW:=mkC Tryd.prog theG zpL 6 0 false
def zmR:Nat→List Nat:=fun i=>[]
noncomputable abbrev zpf:Code:=Tryd.f24.body.getD .skip
noncomputable abbrev zvc:List ResultVar:=Tryd.f24.results.toList
def zmH:List Nat:=[]
def zhx (r:Vector UInt8 32):CallOut:=⟨.pv (.arr .u8 32 r),[],true,[]⟩
theorem zFu (h_0_Prev:Vector UInt8 32) (h_0_Root:Vector UInt8 32) (h_0_Time:UInt32) (h_0_Bits:UInt32) (h_0_Nonce:UInt32) (Q:CallOut→Prop):zac zvh zmR zvc zmH zpf [.pv (.st [.arr .u8 32 h_0_Prev,.arr .u8 32 h_0_Root,.sc .u32 h_0_Time,.sc .u32 h_0_Bits,.sc .u32 h_0_Nonce])] [] Q =
  (((List.length (zi7 h_0_Prev h_0_Root h_0_Time h_0_Bits h_0_Nonce))≤(1099511627776:Nat))∧(Q (zhx (za4 (Vector.toList (za4 (zi7 h_0_Prev h_0_Root h_0_Time h_0_Bits h_0_Nonce))))))):=by kernel_rfl
theorem zD3 (h_0_Prev:Vector UInt8 32) (h_0_Root:Vector UInt8 32) (h_0_Time:UInt32) (h_0_Bits:UInt32) (h_0_Nonce:UInt32) {r} {Q:CallOut→Prop} (h:ref08_Id h_0_Prev h_0_Root h_0_Time h_0_Bits h_0_Nonce=some r) (hQ:Q (zhx r)):zac zvh zmR zvc zmH zpf [.pv (.st [.arr .u8 32 h_0_Prev,.arr .u8 32 h_0_Root,.sc .u32 h_0_Time,.sc .u32 h_0_Bits,.sc .u32 h_0_Nonce])] [] Q :=
 Eq.mpr (zFu h_0_Prev h_0_Root h_0_Time h_0_Bits h_0_Nonce Q) (have h:=(ref08_Id.eq_1 h_0_Prev h_0_Root h_0_Time h_0_Bits h_0_Nonce).symm.trans h; zad h fun hc0 h=>zag (Q:=Q) (e:=zhx) h hQ)
def zgU:Ans
 | [.pv (.st [.arr .u8 32 h_0_Prev,.arr .u8 32 h_0_Root,.sc .u32 h_0_Time,.sc .u32 h_0_Bits,.sc .u32 h_0_Nonce])],[]=>some (none,zhx (idV h_0_Prev h_0_Root h_0_Time h_0_Bits h_0_Nonce))
 | _,_=>none
theorem zzv:TblOK Tryd.prog theG zpL:=.cons ⟨by kernel_rfl,zzn⟩ (.cons ⟨by kernel_rfl,zua⟩ (.nil))
theorem znq:FnOK Tryd.prog theG 24 (unW zgU):=by
 refine FnOK.ofC (T:=zpL) (nt:=6) (np:=0) (mv:=[]) (nf:=false) (hs:=zmH) (fn:=Tryd.f24) (body:=zpf) zzv (by kernel_rfl) (by kernel_rfl) (by kernel_rfl) (by kernel_rfl) (c:=zgU) (lv:=zmR) ?_
 intro xs mem p out h hp
 unfold zgU at h
 split at h
 ·cases h
  exact zD3 _ _ _ _ _ (zx6 _ _ _ _ _) rfl
 ·cases h
end
end Go.Proofs.YtnolgfdjcipmmaaDoor.M
