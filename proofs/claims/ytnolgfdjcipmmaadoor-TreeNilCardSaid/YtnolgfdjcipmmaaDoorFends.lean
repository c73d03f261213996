/- Part of the proofs: what functions of the program do: plain functions, and the walks that show it. No condition. -/
import Derived.KernelRfl
import Derived.Test.YtnolgfdjcipmmaaDoorProg
import Derived.Test.YtnolgfdjcipmmaaDoorLe
import Derived.Test.YtnolgfdjcipmmaaDoorSwords
import Derived.Test.YtnolgfdjcipmmaaDoorSshaS
import Derived.Test.YtnolgfdjcipmmaaDoorSbigS
import Derived.Test.YtnolgfdjcipmmaaDoorSendS
import Derived.Test.YtnolgfdjcipmmaaDoorStarS
import Derived.Test.YtnolgfdjcipmmaaDoorSshaK
set_option linter.unusedVariables false
set_option linter.unusedSimpArgs false
set_option autoImplicit false
namespace Go.Proofs.YtnolgfdjcipmmaaDoor.M
open Go
noncomputable section
def ends_size (n:Int):Bool :=
  bif eqb (decide (n=(1:Int))) false then(bif eqb (bif false then true else(decide (n=(2:Int)))) false then(bif eqb (bif false then true else(decide (n=(4:Int)))) false then((bif false then true else(decide (n=(8:Int)))))
        else(true))
      else(true))
    else(true)
theorem zsN (n:Int):ends_size n=zdJ n:=by
  rw[ends_size]
  unfold zdJ
  by_cases h1:n=1
  · subst h1; rfl
  · by_cases h2:n=2
    · subst h2; rfl
    · by_cases h4:n=4
      · subst h4; rfl
      · by_cases h8:n=8
        · subst h8; rfl
        · simp[h1,h2,h4,h8,eqb]
end
end Go.Proofs.YtnolgfdjcipmmaaDoor.M
namespace Go.Proofs.YtnolgfdjcipmmaaDoor.M
open Go
noncomputable section
def ends_low_h0:Nat→UInt64→Int→Int→(List UInt8)→Option (List UInt8)
  | 0,_,_,_,_=>none
  | k+1,n,t10,t11,b=>bif decide (t11 < t10) then(if(0:Int)≤(w64 ((8:Int)*t11)) then
        if((0:Int)≤t11)∧(t11 < (((List.length b):Nat):Int)) then
          ends_low_h0 k n t10 (w64 (t11+(1:Int))) (List.set b (Int.toNat t11) (UInt64.toUInt8 (zaa n (Int.toNat (w64 ((8:Int)*t11))))))
        else none
      else none)
      else(some b)
def ends_low (k:Nat) (n:UInt64) (many:Int):Option (List UInt8) :=
  if((0:Int)≤many)∧((many≤many)∧(((many*(((1:Nat):Nat):Int))≤(((70368744177664:Nat):Nat):Int))∧(many≤((2:Int) ^ (62:Nat))))) then
    ends_low_h0 k n (((List.length (List.replicate (Int.toNat many) (0:UInt8))):Nat):Int) (0:Int) (List.replicate (Int.toNat many) (0:UInt8))
  else none
theorem zwL (n:UInt64) (many:Int) (hp:zdJ many=true):Ev (fun k=>ends_low k n many) (lowY n.toNat many.toNat):=by
  have h8:=zqu hp
  obtain ⟨m,rfl⟩:∃ m:Nat,many=m:=⟨many.toNat,by omega⟩
  have hm:m≤8:=by omega
  have:=Ev.inv (H:=fun k i s=>ends_low_h0 k n (m:Int) i s) (n:=m) (r:=lowY n.toNat m) (fun i s=>s=lowY n.toNat i++List.replicate (m - i) 0)
    (by
      rintro i s hi rfl h
      refine Ev.step (fun k=>?_) (h _ rfl)
      have hl:(lowY n.toNat i++List.replicate (m - i) 0).length=m:=by rw[List.length_append,zel,List.length_replicate]; omega
      have w8:w64 ((8:Int)*(i:Int))=((8*i:Nat):Int):=by rw[zao (by omega) (by omega)]; omega
      have key:List.set (lowY n.toNat i++List.replicate (m - i) (0:UInt8)) i (lowF n.toNat i)=lowY n.toNat (i+1)++List.replicate (m - (i+1)) 0:=by
        have e:List.replicate (m - i) (0:UInt8)=0 :: List.replicate (m - (i+1)) 0:=by rw[show m - i=(m - (i+1))+1 by omega,List.replicate_succ]
        have hl:=zel n.toNat i
        rw[e,zyt,List.append_assoc]
        generalize lowY n.toNat i=l at *
        subst hl
        simp
      rw[ends_low_h0,zav (by omega),w8,if_pos (by omega),if_pos (by omega),zao (by omega) (by omega),Int.toNat_natCast,Int.toNat_natCast,zHA n i (by omega),key])
    (by
      rintro s rfl
      refine Ev.done fun k=>?_
      rw[ends_low_h0,zax (by omega),Nat.sub_self,List.replicate_zero,List.append_nil])
    m 0 (List.replicate m 0) (by omega) (by simp[lowY])
  refine Ev.same (fun k=>?_) this
  rw[ends_low,if_pos ⟨by omega,by omega,by omega,by omega⟩]
  simp
end
end Go.Proofs.YtnolgfdjcipmmaaDoor.M
namespace Go.Proofs.YtnolgfdjcipmmaaDoor.M
open Go
noncomputable section
def ends_Put (n:UInt64) (many:Int):Option (Int × List UInt8) :=
  bif eqb (!(zdJ many)) false then(bif eqb (decide (many < (8:Int))) true then(if(0:Int)≤(w64 ((8:Int)*many)) then
        bif bif false then true else(bif true then(decide ((0:UInt64) < (zaa n (Int.toNat (w64 ((8:Int)*many))))))else false) then(some ((2:Int),([]:List UInt8)))
          else(if(zdJ many)=true then
            some ((0:Int),(lowY (UInt64.toNat n) (Int.toNat many)))
          else none)
      else none)
      else(if(zdJ many)=true then
        some ((0:Int),(lowY (UInt64.toNat n) (Int.toNat many)))
      else none))
    else(some ((2:Int),([]:List UInt8)))
theorem zxq (n:UInt64) (many:Int):ends_Put n many=some (putR n many,putL n many):=by
  rw[ends_Put]
  rw[zBn]
  unfold putR
  cases hs:zdJ many with
  | false=>simp[eqb]
  | true =>
    have h8:=zqu hs
    obtain ⟨m,rfl⟩:∃ m:Nat,many=m:=⟨many.toNat,by omega⟩
    by_cases h:m < 8
    · have w8:w64 ((8:Int)*(m:Int))=((8*m:Nat):Int):=by rw[zao (by omega) (by omega)]; omega
      rw[decide_eq_true (p:=((m:Nat):Int) < 8) (by omega),w8,Int.toNat_natCast,Int.toNat_natCast]
      by_cases g:n.toNat < 256 ^ m
      · have e:¬ ((0:UInt64) < zaa n (8*m)):=fun q=>by have:=(zw4 n m h).1 q; omega
        rw[decide_eq_false e]
        simp[eqb,g]
        try omega
      · have e:(0:UInt64) < zaa n (8*m):=(zw4 n m h).2 (by omega)
        rw[decide_eq_true e]
        simp[eqb,g]
        try omega
    · have hm:m=8:=by omega
      subst hm
      have hn:=n.toNat_lt
      have g:n.toNat < 256 ^ (8:Nat):=by omega
      rw[decide_eq_false (p:=((8:Nat):Int) < 8) (by omega),Int.toNat_natCast]
      simp[eqb,g]
end
end Go.Proofs.YtnolgfdjcipmmaaDoor.M
namespace Go.Proofs.YtnolgfdjcipmmaaDoor.M
open Go
noncomputable section
set_option maxRecDepth 100000
set_option maxHeartbeats 0
noncomputable def zlW:Tbl:=[]
noncomputable def zr8:CfgW:=mkC Tryd.prog theG zlW 17 0 false
def zjH:Nat→List Nat:=fun i=>[]
noncomputable abbrev zmF:Code:=Tryd.f87.body.getD .skip
noncomputable abbrev zrd:List ResultVar:=Tryd.f87.results.toList
def zj1:List Nat:=[]
def zbf (r:Bool):CallOut:=⟨.pv (.sc .b r),[],true,[]⟩
theorem zAn (n:Int) (Q:CallOut→Prop):zab zr8 zjH zrd zj1 zmF [.pv (.sc .i n)] [] Q =
    (zal (eqb (decide (n=(1:Int))) false) (zal (eqb (bif false then true else(decide (n=(2:Int)))) false) (zal (eqb (bif false then true else(decide (n=(4:Int)))) false) (Q (zbf (bif false then true else(decide (n=(8:Int)))))) (Q (zbf true))) (Q (zbf true))) (Q (zbf true))):=by kernel_rfl
theorem zBc (n:Int) {Q:CallOut→Prop} (h:Q (zbf (ends_size n))):zab zr8 zjH zrd zj1 zmF [.pv (.sc .i n)] [] Q :=
  Eq.mpr (zAn n Q) (have h:=Eq.mp (congrArg (fun r=>Q (zbf r)) (ends_size.eq_1 n)) h; zcK (Q:=fun r=>Q (zbf r)) h (fun h=>zcK (Q:=fun r=>Q (zbf r)) h (fun h=>zcK (Q:=fun r=>Q (zbf r)) h (fun h=>h) (fun h=>h)) (fun h=>h)) (fun h=>h))
def zij:Ans
  | [.pv (.sc .i n)],[]=>some (none,zbf (zdJ n))
  | _,_=>none
theorem zvu:TblOK Tryd.prog theG zlW:=.nil
theorem zzF:FnOK Tryd.prog theG 87 (unW zij):=by
  refine FnOK.ofC (T:=zlW) (nt:=17) (np:=0) (mv:=[]) (nf:=false) (hs:=zj1) (fn:=Tryd.f87) (body:=zmF) zvu (by kernel_rfl) (by kernel_rfl) (by kernel_rfl) (by kernel_rfl) (c:=zij) (lv:=zjH) ?_
  intro xs mem p out h hp
  unfold zij at h
  split at h
  · cases h
    exact zBc _ (congrArg zbf (zsN _))
  · cases h
end
end Go.Proofs.YtnolgfdjcipmmaaDoor.M
namespace Go.Proofs.YtnolgfdjcipmmaaDoor.M
open Go
noncomputable section
set_option maxRecDepth 100000
set_option maxHeartbeats 0
noncomputable def zoX:Tbl:=[]
noncomputable def zcs:CfgW:=mkC Tryd.prog theG zoX 24 0 false
def zdh:Nat→List Nat:=fun i=>bif Nat.beq i 0 then [0,5,10,11]else []
noncomputable abbrev zdS:Code:=Tryd.f88.body.getD .skip
noncomputable abbrev zfB:List ResultVar:=Tryd.f88.results.toList
def zc7:List Nat:=[]
def zeX (r:List UInt8):CallOut:=⟨.o 60000,[(60000,.row (.s .u8 r) false)],true,[]⟩
def zin (n:UInt64) (t10:Int) (t11:Int) (b:List UInt8):St:=⟨[(0,.pv (.sc .u64 n)),(5,.o 60000),(10,.pv (.sc .i t10)),(11,.pv (.sc .i t11))],[(60000,.row (.s .u8 b) true)]⟩
theorem zBB (n:UInt64) (t10:Int) (t11:Int) (b:List UInt8) (Q:CallOut→Prop):zaB zcs zdh [true,true,false,true,false] zdS (zin n t10 t11 b) (fnK zcs zfB zc7 Q) =
    (zal (decide (t11 < t10)) (((0:Int)≤(w64 ((8:Int)*t11)))∧((((0:Int)≤t11)∧(t11 < (((List.length b):Nat):Int)))∧(zat zcs zdh [true,true,false,true,false] zdS (zin n t10 (w64 (t11+(1:Int))) (List.set b (Int.toNat t11) (UInt64.toUInt8 (zaa n (Int.toNat (w64 ((8:Int)*t11))))))) (fnK zcs zfB zc7 Q)))) (Q (zeX b))):=by kernel_rfl
theorem zq7 {r:List UInt8} {Q:CallOut→Prop} (hQ:Q (zeX r)):∀ k:Nat,(∀ (n:UInt64) (t10:Int) (t11:Int) (b:List UInt8),ends_low_h0 k n t10 t11 b=some r→zat zcs zdh [true,true,false,true,false] zdS (zin n t10 t11 b) (fnK zcs zfB zc7 Q))
  | 0=>fun _ _ _ _ h=>zcN h
  | k+1=>fun n t10 t11 b h=>zau (Eq.mpr (zBB n t10 t11 b Q) (have h:=(ends_low_h0.eq_2 n t10 t11 b k).symm.trans h; zae h (fun h=>zad h fun hc0 h=>zad h fun hc1 h=>(zq7 hQ k) _ _ _ _ h) (fun h=>zam (Q:=Q) (e:=zeX) h hQ)))
theorem zDP (n:UInt64) (many:Int) (Q:CallOut→Prop):zab zcs zdh zfB zc7 zdS [.pv (.sc .u64 n),.pv (.sc .i many)] [] Q =
    ((((0:Int)≤many)∧((many≤many)∧(((many*(((1:Nat):Nat):Int))≤(((70368744177664:Nat):Nat):Int))∧(many≤((2:Int) ^ (62:Nat))))))∧(zat zcs zdh [true,true,false,true,false] zdS (zin n (((List.length (List.replicate (Int.toNat many) (0:UInt8))):Nat):Int) (0:Int) (List.replicate (Int.toNat many) (0:UInt8))) (fnK zcs zfB zc7 Q))):=by kernel_rfl
theorem zDd {k:Nat} (n:UInt64) (many:Int) {r} {Q:CallOut→Prop} (h:ends_low k n many=some r) (hQ:Q (zeX r)):zab zcs zdh zfB zc7 zdS [.pv (.sc .u64 n),.pv (.sc .i many)] [] Q :=
  Eq.mpr (zDP n many Q) (have h:=(ends_low.eq_1 k n many).symm.trans h; zad h fun hc0 h=>(zq7 hQ _) _ _ _ _ h)
def zkU:Ans
  | [.pv (.sc .u64 n),.pv (.sc .i many)],[]=>some (some (zdJ many=true),zeX (lowY n.toNat many.toNat))
  | _,_=>none
theorem zzM:TblOK Tryd.prog theG zoX:=.nil
theorem zAS:FnOK Tryd.prog theG 88 (unW zkU):=by
  refine FnOK.ofC (T:=zoX) (nt:=24) (np:=0) (mv:=[]) (nf:=false) (hs:=zc7) (fn:=Tryd.f88) (body:=zdS) zzM (by kernel_rfl) (by kernel_rfl) (by kernel_rfl) (by kernel_rfl) (c:=zkU) (lv:=zdh) ?_
  intro xs mem p out h hp
  unfold zkU at h
  split at h
  · cases h
    obtain ⟨k,hk⟩:=zwL _ _ hp
    exact zDd _ _ hk rfl
  · cases h
end
end Go.Proofs.YtnolgfdjcipmmaaDoor.M
namespace Go.Proofs.YtnolgfdjcipmmaaDoor.M
open Go
noncomputable section
set_option maxRecDepth 100000
set_option maxHeartbeats 0
noncomputable def zoi:Tbl:=[(87,[],zij),(88,[],zkU)]
noncomputable def zuT:CfgW:=mkC Tryd.prog theG zoi 23 0 false
def zl4:Nat→List Nat:=fun i=>[]
noncomputable abbrev zoM:Code:=Tryd.f78.body.getD .skip
noncomputable abbrev zuW:List ResultVar:=Tryd.f78.results.toList
def zmG:List Nat:=[]
def zbB (r:Int × List UInt8):CallOut:=⟨.tup [.o 60000,.pv (.sc .i r.1)],[(60000,.row (.s .u8 r.2) false)],true,[]⟩
theorem zCT (n:UInt64) (many:Int) (Q:CallOut→Prop):zab zuT zl4 zuW zmG zoM [.pv (.sc .u64 n),.pv (.sc .i many)] [] Q =
    (zal (eqb (!(zdJ many)) false) (zal (eqb (decide (many < (8:Int))) true) (((0:Int)≤(w64 ((8:Int)*many)))∧(zal (bif false then true else(bif true then(decide ((0:UInt64) < (zaa n (Int.toNat (w64 ((8:Int)*many))))))else false)) (Q (zbB ((2:Int),([]:List UInt8)))) (((zdJ many)=true)∧(Q (zbB ((0:Int),(lowY (UInt64.toNat n) (Int.toNat many)))))))) (((zdJ many)=true)∧(Q (zbB ((0:Int),(lowY (UInt64.toNat n) (Int.toNat many))))))) (Q (zbB ((2:Int),([]:List UInt8))))):=by kernel_rfl
theorem zD0 (n:UInt64) (many:Int) {r} {Q:CallOut→Prop} (h:ends_Put n many=some r) (hQ:Q (zbB r)):zab zuT zl4 zuW zmG zoM [.pv (.sc .u64 n),.pv (.sc .i many)] [] Q :=
  Eq.mpr (zCT n many Q) (have h:=(ends_Put.eq_1 n many).symm.trans h; zae h (fun h=>zae h (fun h=>zad h fun hc0 h=>zae h (fun h=>zam (Q:=Q) (e:=zbB) h hQ) (fun h=>zad h fun hc1 h=>zam (Q:=Q) (e:=zbB) h hQ)) (fun h=>zad h fun hc0 h=>zam (Q:=Q) (e:=zbB) h hQ)) (fun h=>zam (Q:=Q) (e:=zbB) h hQ))
def zk1:Ans
  | [.pv (.sc .u64 n),.pv (.sc .i many)],[]=>some (none,zbB ((putR n many,putL n many)))
  | _,_=>none
theorem zzT:TblOK Tryd.prog theG zoi:=.cons ⟨by kernel_rfl,zzF⟩ (.cons ⟨by kernel_rfl,zAS⟩ (.nil))
theorem zBb:FnOK Tryd.prog theG 78 (unW zk1):=by
  refine FnOK.ofC (T:=zoi) (nt:=23) (np:=0) (mv:=[]) (nf:=false) (hs:=zmG) (fn:=Tryd.f78) (body:=zoM) zzT (by kernel_rfl) (by kernel_rfl) (by kernel_rfl) (by kernel_rfl) (c:=zk1) (lv:=zl4) ?_
  intro xs mem p out h hp
  unfold zk1 at h
  split at h
  · cases h
    exact zD0 _ _ (zxq _ _) rfl
  · cases h
end
end Go.Proofs.YtnolgfdjcipmmaaDoor.M
