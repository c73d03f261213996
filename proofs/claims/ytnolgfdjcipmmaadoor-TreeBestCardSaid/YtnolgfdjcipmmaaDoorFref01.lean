/- Part of the proofs: what functions of the program do: plain functions, and the walks that show it. No condition. -/
import Derived.KernelRfl
import Derived.Test.YtnolgfdjcipmmaaDoorProg
import Derived.Test.YtnolgfdjcipmmaaDoorLe
import Derived.Test.YtnolgfdjcipmmaaDoorSwords
import Derived.Test.YtnolgfdjcipmmaaDoorSshaS
import Derived.Test.YtnolgfdjcipmmaaDoorSbigS
import Derived.Test.YtnolgfdjcipmmaaDoorSendS
import Derived.Test.YtnolgfdjcipmmaaDoorStarS
import Derived.Test.YtnolgfdjcipmmaaDoorSshaK
set_option linter.unusedVariables false
set_option linter.unusedSimpArgs false
set_option autoImplicit false
namespace Go.Proofs.YtnolgfdjcipmmaaDoor.M
open Go
noncomputable section
def ref01_size (n:Int):Bool :=
 bif eqb (decide (n=(1:Int))) false then(bif eqb (bif false then true else(decide (n=(2:Int)))) false then(bif eqb (bif false then true else(decide (n=(4:Int)))) false then((bif false then true else(decide (n=(8:Int)))))
    else(true))
   else(true))
  else(true)
theorem zss (n:Int):ref01_size n=ze4 n:=by
 rw[ref01_size]
 unfold ze4
 by_cases h1:n=1
 ·subst h1; rfl
 ·by_cases h2:n=2
  ·subst h2; rfl
  ·by_cases h4:n=4
   ·subst h4; rfl
   ·by_cases h8:n=8
    ·subst h8; rfl
    ·simp[h1,h2,h4,h8,eqb]
end
end Go.Proofs.YtnolgfdjcipmmaaDoor.M
namespace Go.Proofs.YtnolgfdjcipmmaaDoor.M
open Go
noncomputable section
def ref01_low_h0:Nat→UInt64→Int→Int→(List UInt8)→Option (List UInt8)
 | 0,_,_,_,_=>none
 | k+1,n,many,i,out=>bif decide (i < many) then(if(((List.length (out++([(UInt64.toUInt8 (n % (256:UInt64)))]:List UInt8)))*(1:Nat))≤(70368744177664:Nat))∧((List.length (out++([(UInt64.toUInt8 (n % (256:UInt64)))]:List UInt8)))≤(70368744177664:Nat)) then
    ref01_low_h0 k (n / (256:UInt64)) many (w64 (i+(1:Int))) (out++([(UInt64.toUInt8 (n % (256:UInt64)))]:List UInt8))
   else none)
   else(some out)
def ref01_low (k:Nat) (n:UInt64) (many:Int):Option (List UInt8) :=
 ref01_low_h0 k n many (0:Int) ([]:List UInt8)
theorem zud (n:UInt64) (many:Int) (hp:ze4 many=true):Ev (fun k=>ref01_low k n many) (lowY n.toNat many.toNat):=by
 have h8:=zrf hp
 obtain ⟨m,rfl⟩:∃ m:Nat,many=m:=⟨many.toNat,by omega⟩
 have hm:m≤8:=by omega
 have:=Ev.inv (H:=fun k i (s:UInt64 × List UInt8)=>ref01_low_h0 k s.1 (m:Int) i s.2) (n:=m) (r:=lowY n.toNat m) (fun i s=>s.1.toNat=n.toNat / 256 ^ i∧s.2=lowY n.toNat i)
  (by
   rintro i ⟨s1,s2⟩ hi ⟨h1,rfl⟩ h
   have h1:s1.toNat=n.toNat / 256 ^ i:=h1
   refine Ev.step (g:=fun k=>ref01_low_h0 k (s1 / 256) (m:Int) ((i:Int)+1) (lowY n.toNat (i+1))) (fun k=>?_) (h (s1 / 256,lowY n.toNat (i+1)) ⟨?_,rfl⟩)
   ·have e:UInt64.toUInt8 (s1 % 256)=lowF n.toNat i:=by
     unfold lowF
     rw[←UInt8.toNat_inj,←h1]
     simp
    show ref01_low_h0 (k+1) s1 (m:Int) (i:Int) (lowY n.toNat i)=_
    rw[ref01_low_h0,zan (by omega),e,←zA4,if_pos (by rw[zfK]; omega),zaj (by omega) (by omega)]
   ·show (s1 / 256).toNat=_
    rw[UInt64.toNat_div,h1,show (256:UInt64).toNat=256 from rfl,Nat.div_div_eq_div_mul,Nat.pow_succ])
  (by
   rintro ⟨s1,s2⟩ ⟨_,rfl⟩
   refine Ev.done fun k=>?_
   show ref01_low_h0 (k+1) s1 (m:Int) (m:Int) (lowY n.toNat m)=_
   rw[ref01_low_h0,zau (by omega)])
  m 0 (n,[]) (by omega) ⟨by simp,by simp[lowY]⟩
 exact this
end
end Go.Proofs.YtnolgfdjcipmmaaDoor.M
namespace Go.Proofs.YtnolgfdjcipmmaaDoor.M
open Go
noncomputable section
def ref01_Put (n:UInt64) (many:Int):Option (Int × List UInt8) :=
 bif eqb (!(ze4 many)) false then(bif eqb (decide (many < (8:Int))) true then(if(0:Int)≤(w64 ((8:Int)*many)) then
    bif bif false then true else(bif true then(!(decide ((zaa n (Int.toNat (w64 ((8:Int)*many))))=(0:UInt64))))else false) then(some ((2:Int),([]:List UInt8)))
     else(if(ze4 many)=true then
      some ((0:Int),(lowY (UInt64.toNat n) (Int.toNat many)))
     else none)
   else none)
   else(if(ze4 many)=true then
    some ((0:Int),(lowY (UInt64.toNat n) (Int.toNat many)))
   else none))
  else(some ((2:Int),([]:List UInt8)))
theorem zuL (n:UInt64) (many:Int):ref01_Put n many=some (putR n many,putL n many):=by
 rw[ref01_Put]
 rw[zCW]
 unfold putR
 cases hs:ze4 many with
 | false=>simp[eqb]
 | true =>
  have h8:=zrf hs
  obtain ⟨m,rfl⟩:∃ m:Nat,many=m:=⟨many.toNat,by omega⟩
  by_cases h:m < 8
  ·have w8:w64 ((8:Int)*(m:Int))=((8*m:Nat):Int):=by rw[zaj (by omega) (by omega)]; omega
   rw[decide_eq_true (p:=((m:Nat):Int) < 8) (by omega),w8,Int.toNat_natCast,Int.toNat_natCast]
   by_cases g:n.toNat < 256 ^ m
   ·have e:zaa n (8*m)=0:=Decidable.byContradiction fun q=>by have:=(zx1 n m h).1 ((ztJ _).2 q); omega
    rw[decide_eq_true e]
    simp[eqb,g]
    try omega
   ·have e:¬ (zaa n (8*m)=0):=(ztJ _).1 ((zx1 n m h).2 (by omega))
    rw[decide_eq_false e]
    simp[eqb,g]
    try omega
  ·have hm:m=8:=by omega
   subst hm
   have hn:=n.toNat_lt
   have g:n.toNat < 256 ^ (8:Nat):=by omega
   rw[decide_eq_false (p:=((8:Nat):Int) < 8) (by omega),Int.toNat_natCast]
   simp[eqb,g]
end
end Go.Proofs.YtnolgfdjcipmmaaDoor.M
namespace Go.Proofs.YtnolgfdjcipmmaaDoor.M
open Go
noncomputable section
set_option maxRecDepth 100000
set_option maxHeartbeats 0
noncomputable def zkF:Tbl:=[]
noncomputable def zqH:CfgW:=mkC Tryd.prog theG zkF 17 0 false
def zjN:Nat→List Nat:=fun i=>[]
noncomputable abbrev zkH:Code:=Tryd.f82.body.getD .skip
noncomputable abbrev zqc:List ResultVar:=Tryd.f82.results.toList
def zjF:List Nat:=[]
def zbs (r:Bool):CallOut:=⟨.pv (.sc .b r),[],true,[]⟩
theorem zA3 (n:Int) (Q:CallOut→Prop):zac zqH zjN zqc zjF zkH [.pv (.sc .i n)] [] Q =
  (zaf (eqb (decide (n=(1:Int))) false) (zaf (eqb (bif false then true else(decide (n=(2:Int)))) false) (zaf (eqb (bif false then true else(decide (n=(4:Int)))) false) (Q (zbs (bif false then true else(decide (n=(8:Int)))))) (Q (zbs true))) (Q (zbs true))) (Q (zbs true))):=by kernel_rfl
theorem zzF (n:Int) {Q:CallOut→Prop} (h:Q (zbs (ref01_size n))):zac zqH zjN zqc zjF zkH [.pv (.sc .i n)] [] Q :=
 Eq.mpr (zA3 n Q) (have h:=Eq.mp (congrArg (fun r=>Q (zbs r)) (ref01_size.eq_1 n)) h; zdd (Q:=fun r=>Q (zbs r)) h (fun h=>zdd (Q:=fun r=>Q (zbs r)) h (fun h=>zdd (Q:=fun r=>Q (zbs r)) h (fun h=>h) (fun h=>h)) (fun h=>h)) (fun h=>h))
def zhw:Ans
 | [.pv (.sc .i n)],[]=>some (none,zbs (ze4 n))
 | _,_=>none
theorem zuw:TblOK Tryd.prog theG zkF:=.nil
theorem zxC:FnOK Tryd.prog theG 82 (unW zhw):=by
 refine FnOK.ofC (T:=zkF) (nt:=17) (np:=0) (mv:=[]) (nf:=false) (hs:=zjF) (fn:=Tryd.f82) (body:=zkH) zuw (by kernel_rfl) (by kernel_rfl) (by kernel_rfl) (by kernel_rfl) (c:=zhw) (lv:=zjN) ?_
 intro xs mem p out h hp
 unfold zhw at h
 split at h
 ·cases h
  exact zzF _ (congrArg zbs (zss _))
 ·cases h
end
end Go.Proofs.YtnolgfdjcipmmaaDoor.M
namespace Go.Proofs.YtnolgfdjcipmmaaDoor.M
open Go
noncomputable section
set_option maxRecDepth 100000
set_option maxHeartbeats 0
noncomputable def zm7:Tbl:=[]
noncomputable def zcK:CfgW:=mkC Tryd.prog theG zm7 21 0 false
def zdY:Nat→List Nat:=fun i=>bif Nat.beq i 0 then [0,1,5,6]else []
noncomputable abbrev zev:Code:=Tryd.f83.body.getD .skip
noncomputable abbrev zfr:List ResultVar:=Tryd.f83.results.toList
def zdU:List Nat:=[]
def zeO (r:List UInt8):CallOut:=⟨.o 60000,[(60000,.row (.s .u8 r) false)],true,[]⟩
def zhB (n:UInt64) (many:Int) (i:Int) (out:List UInt8):St:=⟨[(0,.pv (.sc .u64 n)),(1,.pv (.sc .i many)),(5,.o 60000),(6,.pv (.sc .i i))],[(60000,.row (.s .u8 out) false)]⟩
theorem zzc (n:UInt64) (many:Int) (i:Int) (out:List UInt8) (Q:CallOut→Prop):zas zcK zdY [true,true,false,true,false] zev (zhB n many i out) (fnK zcK zfr zdU Q) =
  (zaf (decide (i < many)) (((256:UInt64)≠(0:UInt64))∧(((((List.length (out++([(UInt64.toUInt8 (n % (256:UInt64)))]:List UInt8)))*(1:Nat))≤(70368744177664:Nat))∧((List.length (out++([(UInt64.toUInt8 (n % (256:UInt64)))]:List UInt8)))≤(70368744177664:Nat)))∧(((256:UInt64)≠(0:UInt64))∧(zah zcK zdY [true,true,false,true,false] zev (zhB (n / (256:UInt64)) many (w64 (i+(1:Int))) (out++([(UInt64.toUInt8 (n % (256:UInt64)))]:List UInt8))) (fnK zcK zfr zdU Q))))) (Q (zeO out))):=by kernel_rfl
theorem zqv {r:List UInt8} {Q:CallOut→Prop} (hQ:Q (zeO r)):∀ k:Nat,(∀ (n:UInt64) (many:Int) (i:Int) (out:List UInt8),ref01_low_h0 k n many i out=some r→zah zcK zdY [true,true,false,true,false] zev (zhB n many i out) (fnK zcK zfr zdU Q))
 | 0=>fun _ _ _ _ h=>zb9 h
 | k+1=>fun n many i out h=>zal (Eq.mpr (zzc n many i out Q) (have h:=(ref01_low_h0.eq_2 n many i out k).symm.trans h; zab h (fun h=>⟨by decide +kernel,zad h fun hc0 h=>⟨by decide +kernel,(zqv hQ k) _ _ _ _ h⟩⟩) (fun h=>zag (Q:=Q) (e:=zeO) h hQ)))
theorem zCT (n:UInt64) (many:Int) (Q:CallOut→Prop):zac zcK zdY zfr zdU zev [.pv (.sc .u64 n),.pv (.sc .i many)] [] Q =
  (zah zcK zdY [true,true,false,true,false] zev (zhB n many (0:Int) ([]:List UInt8)) (fnK zcK zfr zdU Q)):=by kernel_rfl
theorem zB4 {k:Nat} (n:UInt64) (many:Int) {r} {Q:CallOut→Prop} (h:ref01_low k n many=some r) (hQ:Q (zeO r)):zac zcK zdY zfr zdU zev [.pv (.sc .u64 n),.pv (.sc .i many)] [] Q :=
 Eq.mpr (zCT n many Q) (have h:=(ref01_low.eq_1 k n many).symm.trans h; (zqv hQ _) _ _ _ _ h)
def zji:Ans
 | [.pv (.sc .u64 n),.pv (.sc .i many)],[]=>some (some (ze4 many=true),zeO (lowY n.toNat many.toNat))
 | _,_=>none
theorem zxi:TblOK Tryd.prog theG zm7:=.nil
theorem zz2:FnOK Tryd.prog theG 83 (unW zji):=by
 refine FnOK.ofC (T:=zm7) (nt:=21) (np:=0) (mv:=[]) (nf:=false) (hs:=zdU) (fn:=Tryd.f83) (body:=zev) zxi (by kernel_rfl) (by kernel_rfl) (by kernel_rfl) (by kernel_rfl) (c:=zji) (lv:=zdY) ?_
 intro xs mem p out h hp
 unfold zji at h
 split at h
 ·cases h
  obtain ⟨k,hk⟩:=zud _ _ hp
  exact zB4 _ _ hk rfl
 ·cases h
end
end Go.Proofs.YtnolgfdjcipmmaaDoor.M
namespace Go.Proofs.YtnolgfdjcipmmaaDoor.M
open Go
noncomputable section
set_option maxRecDepth 100000
set_option maxHeartbeats 0
noncomputable def zm9:Tbl:=[(82,[],zhw),(83,[],zji)]
noncomputable def zsi:CfgW:=mkC Tryd.prog theG zm9 23 0 false
def zkY:Nat→List Nat:=fun i=>[]
noncomputable abbrev zns:Code:=Tryd.f71.body.getD .skip
noncomputable abbrev zr0:List ResultVar:=Tryd.f71.results.toList
def zlf:List Nat:=[]
def zbV (r:Int × List UInt8):CallOut:=⟨.tup [.o 60000,.pv (.sc .i r.1)],[(60000,.row (.s .u8 r.2) false)],true,[]⟩
theorem zBB (n:UInt64) (many:Int) (Q:CallOut→Prop):zac zsi zkY zr0 zlf zns [.pv (.sc .u64 n),.pv (.sc .i many)] [] Q =
  (zaf (eqb (!(ze4 many)) false) (zaf (eqb (decide (many < (8:Int))) true) (((0:Int)≤(w64 ((8:Int)*many)))∧(zaf (bif false then true else(bif true then(!(decide ((zaa n (Int.toNat (w64 ((8:Int)*many))))=(0:UInt64))))else false)) (Q (zbV ((2:Int),([]:List UInt8)))) (((ze4 many)=true)∧(Q (zbV ((0:Int),(lowY (UInt64.toNat n) (Int.toNat many)))))))) (((ze4 many)=true)∧(Q (zbV ((0:Int),(lowY (UInt64.toNat n) (Int.toNat many))))))) (Q (zbV ((2:Int),([]:List UInt8))))):=by kernel_rfl
theorem zCR (n:UInt64) (many:Int) {r} {Q:CallOut→Prop} (h:ref01_Put n many=some r) (hQ:Q (zbV r)):zac zsi zkY zr0 zlf zns [.pv (.sc .u64 n),.pv (.sc .i many)] [] Q :=
 Eq.mpr (zBB n many Q) (have h:=(ref01_Put.eq_1 n many).symm.trans h; zab h (fun h=>zab h (fun h=>zad h fun hc0 h=>zab h (fun h=>zag (Q:=Q) (e:=zbV) h hQ) (fun h=>zad h fun hc1 h=>zag (Q:=Q) (e:=zbV) h hQ)) (fun h=>zad h fun hc0 h=>zag (Q:=Q) (e:=zbV) h hQ)) (fun h=>zag (Q:=Q) (e:=zbV) h hQ))
def zjs:Ans
 | [.pv (.sc .u64 n),.pv (.sc .i many)],[]=>some (none,zbV ((putR n many,putL n many)))
 | _,_=>none
theorem zxj:TblOK Tryd.prog theG zm9:=.cons ⟨by kernel_rfl,zxC⟩ (.cons ⟨by kernel_rfl,zz2⟩ (.nil))
theorem zyw:FnOK Tryd.prog theG 71 (unW zjs):=by
 refine FnOK.ofC (T:=zm9) (nt:=23) (np:=0) (mv:=[]) (nf:=false) (hs:=zlf) (fn:=Tryd.f71) (body:=zns) zxj (by kernel_rfl) (by kernel_rfl) (by kernel_rfl) (by kernel_rfl) (c:=zjs) (lv:=zkY) ?_
 intro xs mem p out h hp
 unfold zjs at h
 split at h
 ·cases h
  exact zCR _ _ (zuL _ _) rfl
 ·cases h
end
end Go.Proofs.YtnolgfdjcipmmaaDoor.M
