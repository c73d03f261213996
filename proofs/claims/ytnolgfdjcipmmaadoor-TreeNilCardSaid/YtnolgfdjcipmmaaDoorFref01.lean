/- Part of the proofs: what functions of the program do: plain functions, and the walks that show it. No condition. -/
import Derived.KernelRfl
import Derived.Test.YtnolgfdjcipmmaaDoorProg
import Derived.Test.YtnolgfdjcipmmaaDoorLe
import Derived.Test.YtnolgfdjcipmmaaDoorSwords
import Derived.Test.YtnolgfdjcipmmaaDoorSshaS
import Derived.Test.YtnolgfdjcipmmaaDoorSbigS
import Derived.Test.YtnolgfdjcipmmaaDoorSendS
import Derived.Test.YtnolgfdjcipmmaaDoorStarS
import Derived.Test.YtnolgfdjcipmmaaDoorSshaK
set_option linter.unusedVariables false
set_option linter.unusedSimpArgs false
set_option autoImplicit false
namespace Go.Proofs.YtnolgfdjcipmmaaDoor.M
open Go
noncomputable section
def ref01_size (n:Int):Bool :=
  bif eqb (decide (n=(1:Int))) false then(bif eqb (bif false then true else(decide (n=(2:Int)))) false then(bif eqb (bif false then true else(decide (n=(4:Int)))) false then((bif false then true else(decide (n=(8:Int)))))
        else(true))
      else(true))
    else(true)
theorem zsD (n:Int):ref01_size n=zdJ n:=by
  rw[ref01_size]
  unfold zdJ
  by_cases h1:n=1
  · subst h1; rfl
  · by_cases h2:n=2
    · subst h2; rfl
    · by_cases h4:n=4
      · subst h4; rfl
      · by_cases h8:n=8
        · subst h8; rfl
        · simp[h1,h2,h4,h8,eqb]
end
end Go.Proofs.YtnolgfdjcipmmaaDoor.M
namespace Go.Proofs.YtnolgfdjcipmmaaDoor.M
open Go
noncomputable section
def ref01_low_h0:Nat→UInt64→Int→Int→(List UInt8)→Option (List UInt8)
  | 0,_,_,_,_=>none
  | k+1,n,many,i,out=>bif decide (i < many) then(if(((List.length (out++([(UInt64.toUInt8 (n % (256:UInt64)))]:List UInt8)))*(1:Nat))≤(70368744177664:Nat))∧((List.length (out++([(UInt64.toUInt8 (n % (256:UInt64)))]:List UInt8)))≤(70368744177664:Nat)) then
        ref01_low_h0 k (n / (256:UInt64)) many (w64 (i+(1:Int))) (out++([(UInt64.toUInt8 (n % (256:UInt64)))]:List UInt8))
      else none)
      else(some out)
def ref01_low (k:Nat) (n:UInt64) (many:Int):Option (List UInt8) :=
  ref01_low_h0 k n many (0:Int) ([]:List UInt8)
theorem ztt (n:UInt64) (many:Int) (hp:zdJ many=true):Ev (fun k=>ref01_low k n many) (lowY n.toNat many.toNat):=by
  have h8:=zqu hp
  obtain ⟨m,rfl⟩:∃ m:Nat,many=m:=⟨many.toNat,by omega⟩
  have hm:m≤8:=by omega
  have:=Ev.inv (H:=fun k i (s:UInt64 × List UInt8)=>ref01_low_h0 k s.1 (m:Int) i s.2) (n:=m) (r:=lowY n.toNat m) (fun i s=>s.1.toNat=n.toNat / 256 ^ i∧s.2=lowY n.toNat i)
    (by
      rintro i ⟨s1,s2⟩ hi ⟨h1,rfl⟩ h
      have h1:s1.toNat=n.toNat / 256 ^ i:=h1
      refine Ev.step (g:=fun k=>ref01_low_h0 k (s1 / 256) (m:Int) ((i:Int)+1) (lowY n.toNat (i+1))) (fun k=>?_) (h (s1 / 256,lowY n.toNat (i+1)) ⟨?_,rfl⟩)
      · have e:UInt64.toUInt8 (s1 % 256)=lowF n.toNat i:=by
          unfold lowF
          rw[←UInt8.toNat_inj,←h1]
          simp
        show ref01_low_h0 (k+1) s1 (m:Int) (i:Int) (lowY n.toNat i)=_
        rw[ref01_low_h0,zav (by omega),e,←zyt,if_pos (by rw[zel]; omega),zao (by omega) (by omega)]
      · show (s1 / 256).toNat=_
        rw[UInt64.toNat_div,h1,show (256:UInt64).toNat=256 from rfl,Nat.div_div_eq_div_mul,Nat.pow_succ])
    (by
      rintro ⟨s1,s2⟩ ⟨_,rfl⟩
      refine Ev.done fun k=>?_
      show ref01_low_h0 (k+1) s1 (m:Int) (m:Int) (lowY n.toNat m)=_
      rw[ref01_low_h0,zax (by omega)])
    m 0 (n,[]) (by omega) ⟨by simp,by simp[lowY]⟩
  exact this
end
end Go.Proofs.YtnolgfdjcipmmaaDoor.M
namespace Go.Proofs.YtnolgfdjcipmmaaDoor.M
open Go
noncomputable section
def ref01_Put (n:UInt64) (many:Int):Option (Int × List UInt8) :=
  bif eqb (!(zdJ many)) false then(bif eqb (decide (many < (8:Int))) true then(if(0:Int)≤(w64 ((8:Int)*many)) then
        bif bif false then true else(bif true then(!(decide ((zaa n (Int.toNat (w64 ((8:Int)*many))))=(0:UInt64))))else false) then(some ((2:Int),([]:List UInt8)))
          else(if(zdJ many)=true then
            some ((0:Int),(lowY (UInt64.toNat n) (Int.toNat many)))
          else none)
      else none)
      else(if(zdJ many)=true then
        some ((0:Int),(lowY (UInt64.toNat n) (Int.toNat many)))
      else none))
    else(some ((2:Int),([]:List UInt8)))
theorem ztx (n:UInt64) (many:Int):ref01_Put n many=some (putR n many,putL n many):=by
  rw[ref01_Put]
  rw[zBn]
  unfold putR
  cases hs:zdJ many with
  | false=>simp[eqb]
  | true =>
    have h8:=zqu hs
    obtain ⟨m,rfl⟩:∃ m:Nat,many=m:=⟨many.toNat,by omega⟩
    by_cases h:m < 8
    · have w8:w64 ((8:Int)*(m:Int))=((8*m:Nat):Int):=by rw[zao (by omega) (by omega)]; omega
      rw[decide_eq_true (p:=((m:Nat):Int) < 8) (by omega),w8,Int.toNat_natCast,Int.toNat_natCast]
      by_cases g:n.toNat < 256 ^ m
      · have e:zaa n (8*m)=0:=Decidable.byContradiction fun q=>by have:=(zw4 n m h).1 ((zsE _).2 q); omega
        rw[decide_eq_true e]
        simp[eqb,g]
        try omega
      · have e:¬ (zaa n (8*m)=0):=(zsE _).1 ((zw4 n m h).2 (by omega))
        rw[decide_eq_false e]
        simp[eqb,g]
        try omega
    · have hm:m=8:=by omega
      subst hm
      have hn:=n.toNat_lt
      have g:n.toNat < 256 ^ (8:Nat):=by omega
      rw[decide_eq_false (p:=((8:Nat):Int) < 8) (by omega),Int.toNat_natCast]
      simp[eqb,g]
end
end Go.Proofs.YtnolgfdjcipmmaaDoor.M
namespace Go.Proofs.YtnolgfdjcipmmaaDoor.M
open Go
noncomputable section
set_option maxRecDepth 100000
set_option maxHeartbeats 0
noncomputable def zkA:Tbl:=[]
noncomputable def zpE:CfgW:=mkC Tryd.prog theG zkA 17 0 false
def ziu:Nat→List Nat:=fun i=>[]
noncomputable abbrev zjK:Code:=Tryd.f82.body.getD .skip
noncomputable abbrev zpX:List ResultVar:=Tryd.f82.results.toList
def zh4:List Nat:=[]
def za3 (r:Bool):CallOut:=⟨.pv (.sc .b r),[],true,[]⟩
theorem zzP (n:Int) (Q:CallOut→Prop):zab zpE ziu zpX zh4 zjK [.pv (.sc .i n)] [] Q =
    (zal (eqb (decide (n=(1:Int))) false) (zal (eqb (bif false then true else(decide (n=(2:Int)))) false) (zal (eqb (bif false then true else(decide (n=(4:Int)))) false) (Q (za3 (bif false then true else(decide (n=(8:Int)))))) (Q (za3 true))) (Q (za3 true))) (Q (za3 true))):=by kernel_rfl
theorem zy4 (n:Int) {Q:CallOut→Prop} (h:Q (za3 (ref01_size n))):zab zpE ziu zpX zh4 zjK [.pv (.sc .i n)] [] Q :=
  Eq.mpr (zzP n Q) (have h:=Eq.mp (congrArg (fun r=>Q (za3 r)) (ref01_size.eq_1 n)) h; zcK (Q:=fun r=>Q (za3 r)) h (fun h=>zcK (Q:=fun r=>Q (za3 r)) h (fun h=>zcK (Q:=fun r=>Q (za3 r)) h (fun h=>h) (fun h=>h)) (fun h=>h)) (fun h=>h))
def zgq:Ans
  | [.pv (.sc .i n)],[]=>some (none,za3 (zdJ n))
  | _,_=>none
theorem ztk:TblOK Tryd.prog theG zkA:=.nil
theorem zxp:FnOK Tryd.prog theG 82 (unW zgq):=by
  refine FnOK.ofC (T:=zkA) (nt:=17) (np:=0) (mv:=[]) (nf:=false) (hs:=zh4) (fn:=Tryd.f82) (body:=zjK) ztk (by kernel_rfl) (by kernel_rfl) (by kernel_rfl) (by kernel_rfl) (c:=zgq) (lv:=ziu) ?_
  intro xs mem p out h hp
  unfold zgq at h
  split at h
  · cases h
    exact zy4 _ (congrArg za3 (zsD _))
  · cases h
end
end Go.Proofs.YtnolgfdjcipmmaaDoor.M
namespace Go.Proofs.YtnolgfdjcipmmaaDoor.M
open Go
noncomputable section
set_option maxRecDepth 100000
set_option maxHeartbeats 0
noncomputable def zmv:Tbl:=[]
noncomputable def zbU:CfgW:=mkC Tryd.prog theG zmv 21 0 false
def zcA:Nat→List Nat:=fun i=>bif Nat.beq i 0 then [0,1,5,6]else []
noncomputable abbrev zdc:Code:=Tryd.f83.body.getD .skip
noncomputable abbrev zdY:List ResultVar:=Tryd.f83.results.toList
def zcE:List Nat:=[]
def zdN (r:List UInt8):CallOut:=⟨.o 60000,[(60000,.row (.s .u8 r) false)],true,[]⟩
def zgH (n:UInt64) (many:Int) (i:Int) (out:List UInt8):St:=⟨[(0,.pv (.sc .u64 n)),(1,.pv (.sc .i many)),(5,.o 60000),(6,.pv (.sc .i i))],[(60000,.row (.s .u8 out) false)]⟩
theorem zzu (n:UInt64) (many:Int) (i:Int) (out:List UInt8) (Q:CallOut→Prop):zaB zbU zcA [true,true,false,true,false] zdc (zgH n many i out) (fnK zbU zdY zcE Q) =
    (zal (decide (i < many)) (((256:UInt64)≠(0:UInt64))∧(((((List.length (out++([(UInt64.toUInt8 (n % (256:UInt64)))]:List UInt8)))*(1:Nat))≤(70368744177664:Nat))∧((List.length (out++([(UInt64.toUInt8 (n % (256:UInt64)))]:List UInt8)))≤(70368744177664:Nat)))∧(((256:UInt64)≠(0:UInt64))∧(zat zbU zcA [true,true,false,true,false] zdc (zgH (n / (256:UInt64)) many (w64 (i+(1:Int))) (out++([(UInt64.toUInt8 (n % (256:UInt64)))]:List UInt8))) (fnK zbU zdY zcE Q))))) (Q (zdN out))):=by kernel_rfl
theorem zpu {r:List UInt8} {Q:CallOut→Prop} (hQ:Q (zdN r)):∀ k:Nat,(∀ (n:UInt64) (many:Int) (i:Int) (out:List UInt8),ref01_low_h0 k n many i out=some r→zat zbU zcA [true,true,false,true,false] zdc (zgH n many i out) (fnK zbU zdY zcE Q))
  | 0=>fun _ _ _ _ h=>zcN h
  | k+1=>fun n many i out h=>zau (Eq.mpr (zzu n many i out Q) (have h:=(ref01_low_h0.eq_2 n many i out k).symm.trans h; zae h (fun h=>⟨by decide +kernel,zad h fun hc0 h=>⟨by decide +kernel,(zpu hQ k) _ _ _ _ h⟩⟩) (fun h=>zam (Q:=Q) (e:=zdN) h hQ)))
theorem zAM (n:UInt64) (many:Int) (Q:CallOut→Prop):zab zbU zcA zdY zcE zdc [.pv (.sc .u64 n),.pv (.sc .i many)] [] Q =
    (zat zbU zcA [true,true,false,true,false] zdc (zgH n many (0:Int) ([]:List UInt8)) (fnK zbU zdY zcE Q)):=by kernel_rfl
theorem zAx {k:Nat} (n:UInt64) (many:Int) {r} {Q:CallOut→Prop} (h:ref01_low k n many=some r) (hQ:Q (zdN r)):zab zbU zcA zdY zcE zdc [.pv (.sc .u64 n),.pv (.sc .i many)] [] Q :=
  Eq.mpr (zAM n many Q) (have h:=(ref01_low.eq_1 k n many).symm.trans h; (zpu hQ _) _ _ _ _ h)
def zhZ:Ans
  | [.pv (.sc .u64 n),.pv (.sc .i many)],[]=>some (some (zdJ many=true),zdN (lowY n.toNat many.toNat))
  | _,_=>none
theorem zvT:TblOK Tryd.prog theG zmv:=.nil
theorem zxE:FnOK Tryd.prog theG 83 (unW zhZ):=by
  refine FnOK.ofC (T:=zmv) (nt:=21) (np:=0) (mv:=[]) (nf:=false) (hs:=zcE) (fn:=Tryd.f83) (body:=zdc) zvT (by kernel_rfl) (by kernel_rfl) (by kernel_rfl) (by kernel_rfl) (c:=zhZ) (lv:=zcA) ?_
  intro xs mem p out h hp
  unfold zhZ at h
  split at h
  · cases h
    obtain ⟨k,hk⟩:=ztt _ _ hp
    exact zAx _ _ hk rfl
  · cases h
end
end Go.Proofs.YtnolgfdjcipmmaaDoor.M
namespace Go.Proofs.YtnolgfdjcipmmaaDoor.M
open Go
noncomputable section
set_option maxRecDepth 100000
set_option maxHeartbeats 0
noncomputable def zmC:Tbl:=[(82,[],zgq),(83,[],zhZ)]
noncomputable def zsF:CfgW:=mkC Tryd.prog theG zmC 23 0 false
def zjD:Nat→List Nat:=fun i=>[]
noncomputable abbrev zmj:Code:=Tryd.f71.body.getD .skip
noncomputable abbrev zsG:List ResultVar:=Tryd.f71.results.toList
def zjN:List Nat:=[]
def zbo (r:Int × List UInt8):CallOut:=⟨.tup [.o 60000,.pv (.sc .i r.1)],[(60000,.row (.s .u8 r.2) false)],true,[]⟩
theorem zAd (n:UInt64) (many:Int) (Q:CallOut→Prop):zab zsF zjD zsG zjN zmj [.pv (.sc .u64 n),.pv (.sc .i many)] [] Q =
    (zal (eqb (!(zdJ many)) false) (zal (eqb (decide (many < (8:Int))) true) (((0:Int)≤(w64 ((8:Int)*many)))∧(zal (bif false then true else(bif true then(!(decide ((zaa n (Int.toNat (w64 ((8:Int)*many))))=(0:UInt64))))else false)) (Q (zbo ((2:Int),([]:List UInt8)))) (((zdJ many)=true)∧(Q (zbo ((0:Int),(lowY (UInt64.toNat n) (Int.toNat many)))))))) (((zdJ many)=true)∧(Q (zbo ((0:Int),(lowY (UInt64.toNat n) (Int.toNat many))))))) (Q (zbo ((2:Int),([]:List UInt8))))):=by kernel_rfl
theorem zAf (n:UInt64) (many:Int) {r} {Q:CallOut→Prop} (h:ref01_Put n many=some r) (hQ:Q (zbo r)):zab zsF zjD zsG zjN zmj [.pv (.sc .u64 n),.pv (.sc .i many)] [] Q :=
  Eq.mpr (zAd n many Q) (have h:=(ref01_Put.eq_1 n many).symm.trans h; zae h (fun h=>zae h (fun h=>zad h fun hc0 h=>zae h (fun h=>zam (Q:=Q) (e:=zbo) h hQ) (fun h=>zad h fun hc1 h=>zam (Q:=Q) (e:=zbo) h hQ)) (fun h=>zad h fun hc0 h=>zam (Q:=Q) (e:=zbo) h hQ)) (fun h=>zam (Q:=Q) (e:=zbo) h hQ))
def zik:Ans
  | [.pv (.sc .u64 n),.pv (.sc .i many)],[]=>some (none,zbo ((putR n many,putL n many)))
  | _,_=>none
theorem zvh:TblOK Tryd.prog theG zmC:=.cons ⟨by kernel_rfl,zxp⟩ (.cons ⟨by kernel_rfl,zxE⟩ (.nil))
theorem zz4:FnOK Tryd.prog theG 71 (unW zik):=by
  refine FnOK.ofC (T:=zmC) (nt:=23) (np:=0) (mv:=[]) (nf:=false) (hs:=zjN) (fn:=Tryd.f71) (body:=zmj) zvh (by kernel_rfl) (by kernel_rfl) (by kernel_rfl) (by kernel_rfl) (c:=zik) (lv:=zjD) ?_
  intro xs mem p out h hp
  unfold zik at h
  split at h
  · cases h
    exact zAf _ _ (ztx _ _) rfl
  · cases h
end
end Go.Proofs.YtnolgfdjcipmmaaDoor.M
