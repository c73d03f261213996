/- Part of the proofs: what functions of the program do: plain functions, and the walks that show it. No condition. -/
import Derived.KernelRfl
import Derived.Test.YtnolgfdjcipmmaaDoorProg
import Derived.Test.YtnolgfdjcipmmaaDoorLe
import Derived.Test.YtnolgfdjcipmmaaDoorSwords
import Derived.Test.YtnolgfdjcipmmaaDoorSshaS
import Derived.Test.YtnolgfdjcipmmaaDoorSbigS
import Derived.Test.YtnolgfdjcipmmaaDoorSendS
import Derived.Test.YtnolgfdjcipmmaaDoorStarS
import Derived.Test.YtnolgfdjcipmmaaDoorFref02
import Derived.Test.YtnolgfdjcipmmaaDoorFref01
import Derived.Test.YtnolgfdjcipmmaaDoorSshaK
set_option linter.unusedVariables false
set_option linter.unusedSimpArgs false
set_option autoImplicit false
namespace Go.Proofs.YtnolgfdjcipmmaaDoor.M
open Go
noncomputable section
def ref08_Begin  : Vector UInt8 32 × Vector UInt8 32 × UInt32 × UInt32 × UInt32 :=
  ((Vector.replicate 32 (0:UInt8)),(Vector.replicate 32 (0:UInt8)),(0:UInt32),(545259519:UInt32),(0:UInt32))
end
end Go.Proofs.YtnolgfdjcipmmaaDoor.M
namespace Go.Proofs.YtnolgfdjcipmmaaDoor.M
open Go
noncomputable section
def ref08_Put (h_0_Prev:Vector UInt8 32) (h_0_Root:Vector UInt8 32) (h_0_Time:UInt32) (h_0_Bits:UInt32) (h_0_Nonce:UInt32):Option (List UInt8) :=
  if(
      ((
        List.length ((Vector.toList h_0_Prev)++(Vector.toList h_0_Root)))*(1:Nat))≤(70368744177664:Nat))∧((List.length ((Vector.toList h_0_Prev)++(Vector.toList h_0_Root)))≤(70368744177664:Nat)) then
    if(
        ((
          List.length (((Vector.toList h_0_Prev)++(Vector.toList h_0_Root))++(putL (UInt32.toUInt64 h_0_Time) (4:Int))))*(1:Nat))≤(70368744177664:Nat))∧((List.length (((Vector.toList h_0_Prev)++(Vector.toList h_0_Root))++(putL (UInt32.toUInt64 h_0_Time) (4:Int))))≤(70368744177664:Nat)) then
      if(
          ((List.length ((((Vector.toList h_0_Prev)++(Vector.toList h_0_Root))++(putL (UInt32.toUInt64 h_0_Time) (4:Int)))++(putL (UInt32.toUInt64 h_0_Bits) (4:Int))))*(1:Nat))≤(70368744177664:Nat))∧((List.length ((((Vector.toList h_0_Prev)++(Vector.toList h_0_Root))++(putL (UInt32.toUInt64 h_0_Time) (4:Int)))++(putL (UInt32.toUInt64 h_0_Bits) (4:Int))))≤(70368744177664:Nat)) then
        if(((List.length (((((Vector.toList h_0_Prev)++(Vector.toList h_0_Root))++(putL (UInt32.toUInt64 h_0_Time) (4:Int)))++(putL (UInt32.toUInt64 h_0_Bits) (4:Int)))++(putL (UInt32.toUInt64 h_0_Nonce) (4:Int))))*(1:Nat))≤(70368744177664:Nat))∧((List.length (((((Vector.toList h_0_Prev)++(Vector.toList h_0_Root))++(putL (UInt32.toUInt64 h_0_Time) (4:Int)))++(putL (UInt32.toUInt64 h_0_Bits) (4:Int)))++(putL (UInt32.toUInt64 h_0_Nonce) (4:Int))))≤(70368744177664:Nat)) then
          some (((((Vector.toList h_0_Prev)++(Vector.toList h_0_Root))++(putL (UInt32.toUInt64 h_0_Time) (4:Int)))++(putL (UInt32.toUInt64 h_0_Bits) (4:Int)))++(putL (UInt32.toUInt64 h_0_Nonce) (4:Int)))
        else none
      else none
    else none
  else none
theorem zsP (p r:Vector UInt8 32) (t b n:UInt32):ref08_Put p r t b n=some (zix p r t b n):=by
  have l0:=zel t.toNat 4
  have l1:=zel b.toNat 4
  have l2:=zel n.toNat 4
  have hp:(Vector.toList p).length=32:=by simp
  have hr:(Vector.toList r).length=32:=by simp
  rw[ref08_Put,zvc,zvc,zvc,zle]
  simp only[List.length_append]
  rw[if_pos (by omega),if_pos (by omega),if_pos (by omega),if_pos (by omega)]
end
end Go.Proofs.YtnolgfdjcipmmaaDoor.M
namespace Go.Proofs.YtnolgfdjcipmmaaDoor.M
open Go
noncomputable section
def ref08_Id (h_0_Prev:Vector UInt8 32) (h_0_Root:Vector UInt8 32) (h_0_Time:UInt32) (h_0_Bits:UInt32) (h_0_Nonce:UInt32):Option (Vector UInt8 32) :=
  if(List.length (zix h_0_Prev h_0_Root h_0_Time h_0_Bits h_0_Nonce))≤(1099511627776:Nat) then
    some (zaQ (Vector.toList (zaQ (zix h_0_Prev h_0_Root h_0_Time h_0_Bits h_0_Nonce))))
  else none
theorem zvE (p r:Vector UInt8 32) (t b n:UInt32):ref08_Id p r t b n=some (idV p r t b n):=by
  rw[ref08_Id,if_pos (by rw[zx0]; omega),zy1]
end
end Go.Proofs.YtnolgfdjcipmmaaDoor.M
namespace Go.Proofs.YtnolgfdjcipmmaaDoor.M
open Go
noncomputable section
set_option maxRecDepth 100000
set_option maxHeartbeats 0
noncomputable def ziG:Tbl:=[]
noncomputable def zm9:CfgW:=mkC Tryd.prog theG ziG 2 0 false
def zgR:Nat→List Nat:=fun i=>[]
noncomputable abbrev zh6:Code:=Tryd.f22.body.getD .skip
noncomputable abbrev zn3:List ResultVar:=Tryd.f22.results.toList
def zhi:List Nat:=[]
def zdH (r:Vector UInt8 32 × Vector UInt8 32 × UInt32 × UInt32 × UInt32):CallOut:=⟨.pv (.st [.arr .u8 32 r.1,.arr .u8 32 r.2.1,.sc .u32 r.2.2.1,.sc .u32 r.2.2.2.1,.sc .u32 r.2.2.2.2]),[],true,[]⟩
theorem zwK  (Q:CallOut→Prop):zab zm9 zgR zn3 zhi zh6 [] [] Q =
    (Q (zdH ((Vector.replicate 32 (0:UInt8)),(Vector.replicate 32 (0:UInt8)),(0:UInt32),(545259519:UInt32),(0:UInt32)))):=by kernel_rfl
theorem zwa  {Q:CallOut→Prop} (h:Q (zdH (ref08_Begin ))):zab zm9 zgR zn3 zhi zh6 [] [] Q :=
  Eq.mpr (zwK  Q) (have h:=Eq.mp (congrArg (fun r=>Q (zdH r)) (ref08_Begin.eq_1 )) h; h)
def zfy:Ans
  | [],[]=>some (none,zdH (ref08_Begin ))
  | _,_=>none
theorem zr1:TblOK Tryd.prog theG ziG:=.nil
theorem zs6:FnOK Tryd.prog theG 22 (unW zfy):=by
  refine FnOK.ofC (T:=ziG) (nt:=2) (np:=0) (mv:=[]) (nf:=false) (hs:=zhi) (fn:=Tryd.f22) (body:=zh6) zr1 (by kernel_rfl) (by kernel_rfl) (by kernel_rfl) (by kernel_rfl) (c:=zfy) (lv:=zgR) ?_
  intro xs mem p out h hp
  unfold zfy at h
  split at h
  · cases h
    exact zwa  rfl
  · cases h
end
end Go.Proofs.YtnolgfdjcipmmaaDoor.M
namespace Go.Proofs.YtnolgfdjcipmmaaDoor.M
open Go
noncomputable section
set_option maxRecDepth 100000
set_option maxHeartbeats 0
noncomputable def zl1:Tbl:=[(70,[],zeM),(71,[],zik)]
noncomputable def zqG:CfgW:=mkC Tryd.prog theG zl1 45 0 false
def zj8:Nat→List Nat:=fun i=>[]
noncomputable abbrev zl9:Code:=Tryd.f49.body.getD .skip
noncomputable abbrev zqT:List ResultVar:=Tryd.f49.results.toList
def zjJ:List Nat:=[]
def zfe (r:List UInt8):CallOut:=⟨.o 60000,[(60000,.row (.s .u8 r) false)],true,[]⟩
theorem zBI (h_0_Prev:Vector UInt8 32) (h_0_Root:Vector UInt8 32) (h_0_Time:UInt32) (h_0_Bits:UInt32) (h_0_Nonce:UInt32) (Q:CallOut→Prop):zab zqG zj8 zqT zjJ zl9 [.pv (.st [.arr .u8 32 h_0_Prev,.arr .u8 32 h_0_Root,.sc .u32 h_0_Time,.sc .u32 h_0_Bits,.sc .u32 h_0_Nonce])] [] Q =
  (let s0:=(((Vector.toList h_0_Prev)++(Vector.toList h_0_Root))++(putL (UInt32.toUInt64 h_0_Time) (4:Int)));let s1:=(( s0 ++(putL (UInt32.toUInt64 h_0_Bits) (4:Int)))++(putL (UInt32.toUInt64 h_0_Nonce) (4:Int)));(((((List.length ((Vector.toList h_0_Prev)++(Vector.toList h_0_Root)))*(1:Nat))≤(70368744177664:Nat))∧((List.length ((Vector.toList h_0_Prev)++(Vector.toList h_0_Root)))≤(70368744177664:Nat)))∧(((((List.length  s0 )*(1:Nat))≤(70368744177664:Nat))∧((List.length  s0 )≤(70368744177664:Nat)))∧(((((List.length ( s0 ++(putL (UInt32.toUInt64 h_0_Bits) (4:Int))))*(1:Nat))≤(70368744177664:Nat))∧((List.length ( s0 ++(putL (UInt32.toUInt64 h_0_Bits) (4:Int))))≤(70368744177664:Nat)))∧(((((List.length  s1 )*(1:Nat))≤(70368744177664:Nat))∧((List.length  s1 )≤(70368744177664:Nat)))∧(Q (zfe  s1 ))))))):=by kernel_rfl
theorem zBs (h_0_Prev:Vector UInt8 32) (h_0_Root:Vector UInt8 32) (h_0_Time:UInt32) (h_0_Bits:UInt32) (h_0_Nonce:UInt32) {r} {Q:CallOut→Prop} (h:ref08_Put h_0_Prev h_0_Root h_0_Time h_0_Bits h_0_Nonce=some r) (hQ:Q (zfe r)):zab zqG zj8 zqT zjJ zl9 [.pv (.st [.arr .u8 32 h_0_Prev,.arr .u8 32 h_0_Root,.sc .u32 h_0_Time,.sc .u32 h_0_Bits,.sc .u32 h_0_Nonce])] [] Q :=
  Eq.mpr (zBI h_0_Prev h_0_Root h_0_Time h_0_Bits h_0_Nonce Q) (have h:=(ref08_Put.eq_1 h_0_Prev h_0_Root h_0_Time h_0_Bits h_0_Nonce).symm.trans h; zad h fun hc0 h=>zad h fun hc1 h=>zad h fun hc2 h=>zad h fun hc3 h=>zam (Q:=Q) (e:=zfe) h hQ)
def zi5:Ans
  | [.pv (.st [.arr .u8 32 h_0_Prev,.arr .u8 32 h_0_Root,.sc .u32 h_0_Time,.sc .u32 h_0_Bits,.sc .u32 h_0_Nonce])],[]=>some (none,zfe (zix h_0_Prev h_0_Root h_0_Time h_0_Bits h_0_Nonce))
  | _,_=>none
theorem zvV:TblOK Tryd.prog theG zl1:=.cons ⟨by kernel_rfl,znS⟩ (.cons ⟨by kernel_rfl,zz4⟩ (.nil))
theorem zxz:FnOK Tryd.prog theG 49 (unW zi5):=by
  refine FnOK.ofC (T:=zl1) (nt:=45) (np:=0) (mv:=[]) (nf:=false) (hs:=zjJ) (fn:=Tryd.f49) (body:=zl9) zvV (by kernel_rfl) (by kernel_rfl) (by kernel_rfl) (by kernel_rfl) (c:=zi5) (lv:=zj8) ?_
  intro xs mem p out h hp
  unfold zi5 at h
  split at h
  · cases h
    exact zBs _ _ _ _ _ (zsP _ _ _ _ _) rfl
  · cases h
end
end Go.Proofs.YtnolgfdjcipmmaaDoor.M
namespace Go.Proofs.YtnolgfdjcipmmaaDoor.M
open Go
noncomputable section
set_option maxRecDepth 100000
set_option maxHeartbeats 0
noncomputable def zoj:Tbl:=[(49,[],zi5),(48,[],zfd)]
noncomputable def zuE:CfgW:=mkC Tryd.prog theG zoj 6 0 false
def zmi:Nat→List Nat:=fun i=>[]
noncomputable abbrev zof:Code:=Tryd.f24.body.getD .skip
noncomputable abbrev zu5:List ResultVar:=Tryd.f24.results.toList
def zlP:List Nat:=[]
def zgE (r:Vector UInt8 32):CallOut:=⟨.pv (.arr .u8 32 r),[],true,[]⟩
theorem zD2 (h_0_Prev:Vector UInt8 32) (h_0_Root:Vector UInt8 32) (h_0_Time:UInt32) (h_0_Bits:UInt32) (h_0_Nonce:UInt32) (Q:CallOut→Prop):zab zuE zmi zu5 zlP zof [.pv (.st [.arr .u8 32 h_0_Prev,.arr .u8 32 h_0_Root,.sc .u32 h_0_Time,.sc .u32 h_0_Bits,.sc .u32 h_0_Nonce])] [] Q =
    (((List.length (zix h_0_Prev h_0_Root h_0_Time h_0_Bits h_0_Nonce))≤(1099511627776:Nat))∧(Q (zgE (zaQ (Vector.toList (zaQ (zix h_0_Prev h_0_Root h_0_Time h_0_Bits h_0_Nonce))))))):=by kernel_rfl
theorem zC3 (h_0_Prev:Vector UInt8 32) (h_0_Root:Vector UInt8 32) (h_0_Time:UInt32) (h_0_Bits:UInt32) (h_0_Nonce:UInt32) {r} {Q:CallOut→Prop} (h:ref08_Id h_0_Prev h_0_Root h_0_Time h_0_Bits h_0_Nonce=some r) (hQ:Q (zgE r)):zab zuE zmi zu5 zlP zof [.pv (.st [.arr .u8 32 h_0_Prev,.arr .u8 32 h_0_Root,.sc .u32 h_0_Time,.sc .u32 h_0_Bits,.sc .u32 h_0_Nonce])] [] Q :=
  Eq.mpr (zD2 h_0_Prev h_0_Root h_0_Time h_0_Bits h_0_Nonce Q) (have h:=(ref08_Id.eq_1 h_0_Prev h_0_Root h_0_Time h_0_Bits h_0_Nonce).symm.trans h; zad h fun hc0 h=>zam (Q:=Q) (e:=zgE) h hQ)
def zk5:Ans
  | [.pv (.st [.arr .u8 32 h_0_Prev,.arr .u8 32 h_0_Root,.sc .u32 h_0_Time,.sc .u32 h_0_Bits,.sc .u32 h_0_Nonce])],[]=>some (none,zgE (idV h_0_Prev h_0_Root h_0_Time h_0_Bits h_0_Nonce))
  | _,_=>none
theorem zyS:TblOK Tryd.prog theG zoj:=.cons ⟨by kernel_rfl,zxz⟩ (.cons ⟨by kernel_rfl,ztG⟩ (.nil))
theorem zAv:FnOK Tryd.prog theG 24 (unW zk5):=by
  refine FnOK.ofC (T:=zoj) (nt:=6) (np:=0) (mv:=[]) (nf:=false) (hs:=zlP) (fn:=Tryd.f24) (body:=zof) zyS (by kernel_rfl) (by kernel_rfl) (by kernel_rfl) (by kernel_rfl) (c:=zk5) (lv:=zmi) ?_
  intro xs mem p out h hp
  unfold zk5 at h
  split at h
  · cases h
    exact zC3 _ _ _ _ _ (zvE _ _ _ _ _) rfl
  · cases h
end
end Go.Proofs.YtnolgfdjcipmmaaDoor.M
