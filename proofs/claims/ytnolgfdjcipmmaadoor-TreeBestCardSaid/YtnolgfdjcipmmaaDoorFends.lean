/- Part of the proofs: what functions of the program do: plain functions, and the walks that show it. No condition. -/
import Derived.KernelRfl
import Derived.Test.YtnolgfdjcipmmaaDoorProg
import Derived.Test.YtnolgfdjcipmmaaDoorLe
import Derived.Test.YtnolgfdjcipmmaaDoorSwords
import Derived.Test.YtnolgfdjcipmmaaDoorSshaS
import Derived.Test.YtnolgfdjcipmmaaDoorSbigS
import Derived.Test.YtnolgfdjcipmmaaDoorSendS
import Derived.Test.YtnolgfdjcipmmaaDoorStarS
import Derived.Test.YtnolgfdjcipmmaaDoorSshaK
set_option linter.unusedVariables false
set_option linter.unusedSimpArgs false
set_option autoImplicit false
namespace Go.Proofs.YtnolgfdjcipmmaaDoor.M
open Go
noncomputable section
def ends_size (n:Int):Bool :=
 bif eqb (decide (n=(1:Int))) false then(bif eqb (bif false then true else(decide (n=(2:Int)))) false then(bif eqb (bif false then true else(decide (n=(4:Int)))) false then((bif false then true else(decide (n=(8:Int)))))
    else(true))
   else(true))
  else(true)
theorem zuG (n:Int):ends_size n=ze4 n:=by
 rw[ends_size]
 unfold ze4
 by_cases h1:n=1
 ·subst h1; rfl
 ·by_cases h2:n=2
  ·subst h2; rfl
  ·by_cases h4:n=4
   ·subst h4; rfl
   ·by_cases h8:n=8
    ·subst h8; rfl
    ·simp[h1,h2,h4,h8,eqb]
end
end Go.Proofs.YtnolgfdjcipmmaaDoor.M
namespace Go.Proofs.YtnolgfdjcipmmaaDoor.M
open Go
noncomputable section
def ends_low_h0:Nat→UInt64→Int→Int→(List UInt8)→Option (List UInt8)
 | 0,_,_,_,_=>none
 | k+1,n,t10,t11,b=>bif decide (t11 < t10) then(if(0:Int)≤(w64 ((8:Int)*t11)) then
    if((0:Int)≤t11)∧(t11 < (((List.length b):Nat):Int)) then
     ends_low_h0 k n t10 (w64 (t11+(1:Int))) (List.set b (Int.toNat t11) (UInt64.toUInt8 (zaa n (Int.toNat (w64 ((8:Int)*t11))))))
    else none
   else none)
   else(some b)
def ends_low (k:Nat) (n:UInt64) (many:Int):Option (List UInt8) :=
 if((0:Int)≤many)∧((many≤many)∧(((many*(((1:Nat):Nat):Int))≤(((70368744177664:Nat):Nat):Int))∧(many≤((2:Int) ^ (62:Nat))))) then
  ends_low_h0 k n (((List.length (List.replicate (Int.toNat many) (0:UInt8))):Nat):Int) (0:Int) (List.replicate (Int.toNat many) (0:UInt8))
 else none
theorem zxM (n:UInt64) (many:Int) (hp:ze4 many=true):Ev (fun k=>ends_low k n many) (lowY n.toNat many.toNat):=by
 have h8:=zrf hp
 obtain ⟨m,rfl⟩:∃ m:Nat,many=m:=⟨many.toNat,by omega⟩
 have hm:m≤8:=by omega
 have:=Ev.inv (H:=fun k i s=>ends_low_h0 k n (m:Int) i s) (n:=m) (r:=lowY n.toNat m) (fun i s=>s=lowY n.toNat i++List.replicate (m - i) 0)
  (by
   rintro i s hi rfl h
   refine Ev.step (fun k=>?_) (h _ rfl)
   have hl:(lowY n.toNat i++List.replicate (m - i) 0).length=m:=by rw[List.length_append,zfK,List.length_replicate]; omega
   have w8:w64 ((8:Int)*(i:Int))=((8*i:Nat):Int):=by rw[zaj (by omega) (by omega)]; omega
   have key:List.set (lowY n.toNat i++List.replicate (m - i) (0:UInt8)) i (lowF n.toNat i)=lowY n.toNat (i+1)++List.replicate (m - (i+1)) 0:=by
    have e:List.replicate (m - i) (0:UInt8)=0 :: List.replicate (m - (i+1)) 0:=by rw[show m - i=(m - (i+1))+1 by omega,List.replicate_succ]
    have hl:=zfK n.toNat i
    rw[e,zA4,List.append_assoc]
    generalize lowY n.toNat i=l at *
    subst hl
    simp
   rw[ends_low_h0,zan (by omega),w8,if_pos (by omega),if_pos (by omega),zaj (by omega) (by omega),Int.toNat_natCast,Int.toNat_natCast,zJf n i (by omega),key])
  (by
   rintro s rfl
   refine Ev.done fun k=>?_
   rw[ends_low_h0,zau (by omega),Nat.sub_self,List.replicate_zero,List.append_nil])
  m 0 (List.replicate m 0) (by omega) (by simp[lowY])
 refine Ev.same (fun k=>?_) this
 rw[ends_low,if_pos ⟨by omega,by omega,by omega,by omega⟩]
 simp
end
end Go.Proofs.YtnolgfdjcipmmaaDoor.M
namespace Go.Proofs.YtnolgfdjcipmmaaDoor.M
open Go
noncomputable section
def ends_Put (n:UInt64) (many:Int):Option (Int × List UInt8) :=
 bif eqb (!(ze4 many)) false then(bif eqb (decide (many < (8:Int))) true then(if(0:Int)≤(w64 ((8:Int)*many)) then
    bif bif false then true else(bif true then(decide ((0:UInt64) < (zaa n (Int.toNat (w64 ((8:Int)*many))))))else false) then(some ((2:Int),([]:List UInt8)))
     else(if(ze4 many)=true then
      some ((0:Int),(lowY (UInt64.toNat n) (Int.toNat many)))
     else none)
   else none)
   else(if(ze4 many)=true then
    some ((0:Int),(lowY (UInt64.toNat n) (Int.toNat many)))
   else none))
  else(some ((2:Int),([]:List UInt8)))
theorem zyh (n:UInt64) (many:Int):ends_Put n many=some (putR n many,putL n many):=by
 rw[ends_Put]
 rw[zCW]
 unfold putR
 cases hs:ze4 many with
 | false=>simp[eqb]
 | true =>
  have h8:=zrf hs
  obtain ⟨m,rfl⟩:∃ m:Nat,many=m:=⟨many.toNat,by omega⟩
  by_cases h:m < 8
  ·have w8:w64 ((8:Int)*(m:Int))=((8*m:Nat):Int):=by rw[zaj (by omega) (by omega)]; omega
   rw[decide_eq_true (p:=((m:Nat):Int) < 8) (by omega),w8,Int.toNat_natCast,Int.toNat_natCast]
   by_cases g:n.toNat < 256 ^ m
   ·have e:¬ ((0:UInt64) < zaa n (8*m)):=fun q=>by have:=(zx1 n m h).1 q; omega
    rw[decide_eq_false e]
    simp[eqb,g]
    try omega
   ·have e:(0:UInt64) < zaa n (8*m):=(zx1 n m h).2 (by omega)
    rw[decide_eq_true e]
    simp[eqb,g]
    try omega
  ·have hm:m=8:=by omega
   subst hm
   have hn:=n.toNat_lt
   have g:n.toNat < 256 ^ (8:Nat):=by omega
   rw[decide_eq_false (p:=((8:Nat):Int) < 8) (by omega),Int.toNat_natCast]
   simp[eqb,g]
end
end Go.Proofs.YtnolgfdjcipmmaaDoor.M
namespace Go.Proofs.YtnolgfdjcipmmaaDoor.M
open Go
noncomputable section
set_option maxRecDepth 100000
set_option maxHeartbeats 0
noncomputable def znv:Tbl:=[]
noncomputable def ztz:CfgW:=mkC Tryd.prog theG znv 17 0 false
def zks:Nat→List Nat:=fun i=>[]
noncomputable abbrev znd:Code:=Tryd.f87.body.getD .skip
noncomputable abbrev zrU:List ResultVar:=Tryd.f87.results.toList
def zkZ:List Nat:=[]
def zbF (r:Bool):CallOut:=⟨.pv (.sc .b r),[],true,[]⟩
theorem zCE (n:Int) (Q:CallOut→Prop):zac ztz zks zrU zkZ znd [.pv (.sc .i n)] [] Q =
  (zaf (eqb (decide (n=(1:Int))) false) (zaf (eqb (bif false then true else(decide (n=(2:Int)))) false) (zaf (eqb (bif false then true else(decide (n=(4:Int)))) false) (Q (zbF (bif false then true else(decide (n=(8:Int)))))) (Q (zbF true))) (Q (zbF true))) (Q (zbF true))):=by kernel_rfl
theorem zCb (n:Int) {Q:CallOut→Prop} (h:Q (zbF (ends_size n))):zac ztz zks zrU zkZ znd [.pv (.sc .i n)] [] Q :=
 Eq.mpr (zCE n Q) (have h:=Eq.mp (congrArg (fun r=>Q (zbF r)) (ends_size.eq_1 n)) h; zdd (Q:=fun r=>Q (zbF r)) h (fun h=>zdd (Q:=fun r=>Q (zbF r)) h (fun h=>zdd (Q:=fun r=>Q (zbF r)) h (fun h=>h) (fun h=>h)) (fun h=>h)) (fun h=>h))
def ziK:Ans
 | [.pv (.sc .i n)],[]=>some (none,zbF (ze4 n))
 | _,_=>none
theorem zyn:TblOK Tryd.prog theG znv:=.nil
theorem zyM:FnOK Tryd.prog theG 87 (unW ziK):=by
 refine FnOK.ofC (T:=znv) (nt:=17) (np:=0) (mv:=[]) (nf:=false) (hs:=zkZ) (fn:=Tryd.f87) (body:=znd) zyn (by kernel_rfl) (by kernel_rfl) (by kernel_rfl) (by kernel_rfl) (c:=ziK) (lv:=zks) ?_
 intro xs mem p out h hp
 unfold ziK at h
 split at h
 ·cases h
  exact zCb _ (congrArg zbF (zuG _))
 ·cases h
end
end Go.Proofs.YtnolgfdjcipmmaaDoor.M
namespace Go.Proofs.YtnolgfdjcipmmaaDoor.M
open Go
noncomputable section
set_option maxRecDepth 100000
set_option maxHeartbeats 0
noncomputable def zpc:Tbl:=[]
noncomputable def zdu:CfgW:=mkC Tryd.prog theG zpc 24 0 false
def zez:Nat→List Nat:=fun i=>bif Nat.beq i 0 then [0,5,10,11]else []
noncomputable abbrev zfv:Code:=Tryd.f88.body.getD .skip
noncomputable abbrev zgT:List ResultVar:=Tryd.f88.results.toList
def zet:List Nat:=[]
def zfY (r:List UInt8):CallOut:=⟨.o 60000,[(60000,.row (.s .u8 r) false)],true,[]⟩
def ziU (n:UInt64) (t10:Int) (t11:Int) (b:List UInt8):St:=⟨[(0,.pv (.sc .u64 n)),(5,.o 60000),(10,.pv (.sc .i t10)),(11,.pv (.sc .i t11))],[(60000,.row (.s .u8 b) true)]⟩
theorem zBQ (n:UInt64) (t10:Int) (t11:Int) (b:List UInt8) (Q:CallOut→Prop):zas zdu zez [true,true,false,true,false] zfv (ziU n t10 t11 b) (fnK zdu zgT zet Q) =
  (zaf (decide (t11 < t10)) (((0:Int)≤(w64 ((8:Int)*t11)))∧((((0:Int)≤t11)∧(t11 < (((List.length b):Nat):Int)))∧(zah zdu zez [true,true,false,true,false] zfv (ziU n t10 (w64 (t11+(1:Int))) (List.set b (Int.toNat t11) (UInt64.toUInt8 (zaa n (Int.toNat (w64 ((8:Int)*t11))))))) (fnK zdu zgT zet Q)))) (Q (zfY b))):=by kernel_rfl
theorem zsd {r:List UInt8} {Q:CallOut→Prop} (hQ:Q (zfY r)):∀ k:Nat,(∀ (n:UInt64) (t10:Int) (t11:Int) (b:List UInt8),ends_low_h0 k n t10 t11 b=some r→zah zdu zez [true,true,false,true,false] zfv (ziU n t10 t11 b) (fnK zdu zgT zet Q))
 | 0=>fun _ _ _ _ h=>zb9 h
 | k+1=>fun n t10 t11 b h=>zal (Eq.mpr (zBQ n t10 t11 b Q) (have h:=(ends_low_h0.eq_2 n t10 t11 b k).symm.trans h; zab h (fun h=>zad h fun hc0 h=>zad h fun hc1 h=>(zsd hQ k) _ _ _ _ h) (fun h=>zag (Q:=Q) (e:=zfY) h hQ)))
theorem zD7 (n:UInt64) (many:Int) (Q:CallOut→Prop):zac zdu zez zgT zet zfv [.pv (.sc .u64 n),.pv (.sc .i many)] [] Q =
  ((((0:Int)≤many)∧((many≤many)∧(((many*(((1:Nat):Nat):Int))≤(((70368744177664:Nat):Nat):Int))∧(many≤((2:Int) ^ (62:Nat))))))∧(zah zdu zez [true,true,false,true,false] zfv (ziU n (((List.length (List.replicate (Int.toNat many) (0:UInt8))):Nat):Int) (0:Int) (List.replicate (Int.toNat many) (0:UInt8))) (fnK zdu zgT zet Q))):=by kernel_rfl
theorem zFA {k:Nat} (n:UInt64) (many:Int) {r} {Q:CallOut→Prop} (h:ends_low k n many=some r) (hQ:Q (zfY r)):zac zdu zez zgT zet zfv [.pv (.sc .u64 n),.pv (.sc .i many)] [] Q :=
 Eq.mpr (zD7 n many Q) (have h:=(ends_low.eq_1 k n many).symm.trans h; zad h fun hc0 h=>(zsd hQ _) _ _ _ _ h)
def zlx:Ans
 | [.pv (.sc .u64 n),.pv (.sc .i many)],[]=>some (some (ze4 many=true),zfY (lowY n.toNat many.toNat))
 | _,_=>none
theorem zyB:TblOK Tryd.prog theG zpc:=.nil
theorem zBm:FnOK Tryd.prog theG 88 (unW zlx):=by
 refine FnOK.ofC (T:=zpc) (nt:=24) (np:=0) (mv:=[]) (nf:=false) (hs:=zet) (fn:=Tryd.f88) (body:=zfv) zyB (by kernel_rfl) (by kernel_rfl) (by kernel_rfl) (by kernel_rfl) (c:=zlx) (lv:=zez) ?_
 intro xs mem p out h hp
 unfold zlx at h
 split at h
 ·cases h
  obtain ⟨k,hk⟩:=zxM _ _ hp
  exact zFA _ _ hk rfl
 ·cases h
end
end Go.Proofs.YtnolgfdjcipmmaaDoor.M
namespace Go.Proofs.YtnolgfdjcipmmaaDoor.M
open Go
noncomputable section
set_option maxRecDepth 100000
set_option maxHeartbeats 0
noncomputable def zpN:Tbl:=[(87,[],ziK),(88,[],zlx)]
noncomputable def zv1:CfgW:=mkC Tryd.prog theG zpN 23 0 false
def zno:Nat→List Nat:=fun i=>[]
noncomputable abbrev zpw:Code:=Tryd.f78.body.getD .skip
noncomputable abbrev zvd:List ResultVar:=Tryd.f78.results.toList
def zm4:List Nat:=[]
def zck (r:Int × List UInt8):CallOut:=⟨.tup [.o 60000,.pv (.sc .i r.1)],[(60000,.row (.s .u8 r.2) false)],true,[]⟩
theorem zFz (n:UInt64) (many:Int) (Q:CallOut→Prop):zac zv1 zno zvd zm4 zpw [.pv (.sc .u64 n),.pv (.sc .i many)] [] Q =
  (zaf (eqb (!(ze4 many)) false) (zaf (eqb (decide (many < (8:Int))) true) (((0:Int)≤(w64 ((8:Int)*many)))∧(zaf (bif false then true else(bif true then(decide ((0:UInt64) < (zaa n (Int.toNat (w64 ((8:Int)*many))))))else false)) (Q (zck ((2:Int),([]:List UInt8)))) (((ze4 many)=true)∧(Q (zck ((0:Int),(lowY (UInt64.toNat n) (Int.toNat many)))))))) (((ze4 many)=true)∧(Q (zck ((0:Int),(lowY (UInt64.toNat n) (Int.toNat many))))))) (Q (zck ((2:Int),([]:List UInt8))))):=by kernel_rfl
theorem zFn (n:UInt64) (many:Int) {r} {Q:CallOut→Prop} (h:ends_Put n many=some r) (hQ:Q (zck r)):zac zv1 zno zvd zm4 zpw [.pv (.sc .u64 n),.pv (.sc .i many)] [] Q :=
 Eq.mpr (zFz n many Q) (have h:=(ends_Put.eq_1 n many).symm.trans h; zab h (fun h=>zab h (fun h=>zad h fun hc0 h=>zab h (fun h=>zag (Q:=Q) (e:=zck) h hQ) (fun h=>zad h fun hc1 h=>zag (Q:=Q) (e:=zck) h hQ)) (fun h=>zad h fun hc0 h=>zag (Q:=Q) (e:=zck) h hQ)) (fun h=>zag (Q:=Q) (e:=zck) h hQ))
def zlQ:Ans
 | [.pv (.sc .u64 n),.pv (.sc .i many)],[]=>some (none,zck ((putR n many,putL n many)))
 | _,_=>none
theorem zAb:TblOK Tryd.prog theG zpN:=.cons ⟨by kernel_rfl,zyM⟩ (.cons ⟨by kernel_rfl,zBm⟩ (.nil))
theorem zCO:FnOK Tryd.prog theG 78 (unW zlQ):=by
 refine FnOK.ofC (T:=zpN) (nt:=23) (np:=0) (mv:=[]) (nf:=false) (hs:=zm4) (fn:=Tryd.f78) (body:=zpw) zAb (by kernel_rfl) (by kernel_rfl) (by kernel_rfl) (by kernel_rfl) (c:=zlQ) (lv:=zno) ?_
 intro xs mem p out h hp
 unfold zlQ at h
 split at h
 ·cases h
  exact zFn _ _ (zyh _ _) rfl
 ·cases h
end
end Go.Proofs.YtnolgfdjcipmmaaDoor.M
