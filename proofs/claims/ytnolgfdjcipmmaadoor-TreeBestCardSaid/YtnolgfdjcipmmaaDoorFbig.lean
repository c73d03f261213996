/- Part of the proofs: what functions of the program do: plain functions, and the walks that show it. No condition. -/
import Derived.KernelRfl
import Derived.Test.YtnolgfdjcipmmaaDoorProg
import Derived.Test.YtnolgfdjcipmmaaDoorLe
import Derived.Test.YtnolgfdjcipmmaaDoorSwords
import Derived.Test.YtnolgfdjcipmmaaDoorSbigS
import Derived.Test.YtnolgfdjcipmmaaDoorSbigB
import Derived.Test.YtnolgfdjcipmmaaDoorFbits
import Derived.Test.YtnolgfdjcipmmaaDoorScellS
import Derived.Test.YtnolgfdjcipmmaaDoorSshaK
set_option linter.unusedVariables false
set_option linter.unusedSimpArgs false
set_option autoImplicit false
namespace Go.Proofs.YtnolgfdjcipmmaaDoor.M
open Go
noncomputable section
def big_Of (n:UInt64):Vector UInt64 4 :=
 (Vector.setIfInBounds (Vector.replicate 4 (0:UInt64)) (0:Nat) n)
theorem zCq (n:UInt64):big_Of n=uW n.toNat:=by
 have hn:=n.toNat_lt
 refine zEz fun q hq=>?_
 rw[zii _ _ hq]
 unfold big_Of gW
 rw[zax _ _ _ _ _ (by omega),zjB]
 have:q=0∨q=1∨q=2∨q=3:=by omega
 rcases this with h | h | h | h<;>subst h<;>simp<;>omega
end
end Go.Proofs.YtnolgfdjcipmmaaDoor.M
namespace Go.Proofs.YtnolgfdjcipmmaaDoor.M
open Go
noncomputable section
def big_Right_h1:Nat→Int→Int→(Vector UInt64 4)→(Vector UInt64 4)→(Vector UInt64 4)→Option (Vector UInt64 4)
 | 0,_,_,_,_,_=>none
 | k+1,n,i,a,t4,x_=>bif decide ((w64 (i+(w64 (Int.tdiv n (64:Int))))) < (4:Int)) then(if((0:Int)≤(w64 (i+(w64 (Int.tdiv n (64:Int))))))∧((w64 (i+(w64 (Int.tdiv n (64:Int))))) < (4:Int)) then
    if(
      (0:Int)≤i)∧(i < (4:Int)) then
     bif eqb (decide ((w64 ((w64 (i+(w64 (Int.tdiv n (64:Int)))))+(1:Int))) < (4:Int))) true then(bif bif true then(!(decide ((Int.tmod n (64:Int))=(0:Int))))else false then(if((0:Int)≤(w64 ((w64 (i+(w64 (Int.tdiv n (64:Int)))))+(1:Int))))∧((w64 ((w64 (i+(w64 (Int.tdiv n (64:Int)))))+(1:Int))) < (4:Int)) then
        big_Right_h1 k n (w64 (i+(1:Int))) a t4 (Vector.setIfInBounds (Vector.setIfInBounds x_ (Int.toNat i) (zaa (List.getD (Vector.toList a) (Int.toNat (w64 (i+(w64 (Int.tdiv n (64:Int)))))) (0:UInt64)) (UInt64.toNat ((UInt64.ofInt n) % (64:UInt64))))) (Int.toNat i) ((List.getD (Vector.toList (Vector.setIfInBounds x_ (Int.toNat i) (zaa (List.getD (Vector.toList a) (Int.toNat (w64 (i+(w64 (Int.tdiv n (64:Int)))))) (0:UInt64)) (UInt64.toNat ((UInt64.ofInt n) % (64:UInt64)))))) (Int.toNat i) (0:UInt64)) ||| (zaq (List.getD (Vector.toList a) (Int.toNat (w64 ((w64 (i+(w64 (Int.tdiv n (64:Int)))))+(1:Int)))) (0:UInt64)) (UInt64.toNat ((64:UInt64) - ((UInt64.ofInt n) % (64:UInt64)))))))
       else none)
       else(big_Right_h1 k n (w64 (i+(1:Int))) a t4 (Vector.setIfInBounds x_ (Int.toNat i) (zaa (List.getD (Vector.toList a) (Int.toNat (w64 (i+(w64 (Int.tdiv n (64:Int)))))) (0:UInt64)) (UInt64.toNat ((UInt64.ofInt n) % (64:UInt64)))))))
      else(big_Right_h1 k n (w64 (i+(1:Int))) a t4 (Vector.setIfInBounds x_ (Int.toNat i) (zaa (List.getD (Vector.toList a) (Int.toNat (w64 (i+(w64 (Int.tdiv n (64:Int)))))) (0:UInt64)) (UInt64.toNat ((UInt64.ofInt n) % (64:UInt64))))))
    else none
   else none)
   else(some x_)
def big_Right (k:Nat) (a:Vector UInt64 4) (n:Int):Option (Vector UInt64 4) :=
 bif decide (n≤(0:Int)) then(some a)
  else(bif decide ((256:Int)≤n) then(some (Vector.replicate 4 (0:UInt64)))
   else(big_Right_h1 k n (0:Int) a (Vector.replicate 4 (0:UInt64)) (Vector.replicate 4 (0:UInt64))))
theorem ztX (a:Vector UInt64 4) (n:Int) (h:-9223372036854775808≤n∧n < 9223372036854775808):∃ k,big_Right k a n=some (uW (uV a / 2 ^ n.toNat)):=by
 show Ev (fun k=>big_Right k a n) _
 refine Ev.same (fun k=>big_Right.eq_1 k a n) ?_
 by_cases c0:n≤0
 ·refine Ev.done0 fun k=>?_
  rw[zan c0,show n.toNat=0 by omega,Nat.pow_zero,Nat.div_one,zBZ]
 by_cases c1:256≤n
 ·refine Ev.done0 fun k=>?_
  rw[zau c0,zan c1]
  refine congrArg some (zim fun i hi=>?_)
  rw[zr3,zmh,Nat.testBit_div_two_pow,zsY _ _ (by omega),Bool.and_false,Nat.zero_testBit]
 obtain ⟨N,rfl⟩:∃ N:Nat,n=(N:Int):=⟨n.toNat,by omega⟩
 have hN:N < 256:=by omega
 refine Ev.same (fun k=>by rw[zau c0,zau c1]) ?_
 rw[Int.toNat_natCast]
 have:=Ev.inv (H:=fun k i x=>big_Right_h1 k (N:Int) i a (Vector.replicate 4 0) x) (n:=4 - N / 64) (r:=uW (uV a / 2 ^ N))
  (fun i x=>∀ j t,j < 4→t < 64→(gW x j).testBit t=(decide (j < i) && (uV a / 2 ^ N).testBit (64*j+t))) ?_ ?_ (4 - N / 64) 0 (Vector.replicate 4 0) (by omega) ?_
 ·exact this
 ·intro i x hi hv next
  have ed:Int.tdiv ((N:Nat):Int) 64=((N / 64:Nat):Int):=rfl
  have em:Int.tmod ((N:Nat):Int) 64=((N % 64:Nat):Int):=rfl
  have hk:w64 ((i:Int)+((N / 64:Nat):Int))=((i+N / 64:Nat):Int):=by rw[zaj (by omega) (by omega)]; omega
  have hk2:w64 (((i+N / 64:Nat):Int)+1)=((i+N / 64+1:Nat):Int):=by rw[zaj (by omega) (by omega)]; omega
  have hi4:i+N / 64 < 4:=by omega
  have fin:∀ w:UInt64,(∀ t,t < 64→w.toNat.testBit t=((gW a (i+N / 64)).testBit (t+N % 64) || (decide (i+N / 64+1 < 4∧N % 64≠0) && (decide (64 - N % 64≤t) && (gW a (i+N / 64+1)).testBit (t - (64 - N % 64)))))) →
    ∀ j t,j < 4→t < 64→(gW (Vector.setIfInBounds x i w) j).testBit t=(decide (j < i+1) && (uV a / 2 ^ N).testBit (64*j+t)):=by
   intro w hw j t hj ht
   rw[znR _ _ _ _ (by omega)]
   by_cases e:i=j
   ·subst e
    rw[if_pos rfl,hw t ht,decide_eq_true (p:=i < i+1) (by omega),Bool.true_and,zFG a N i hN hi4 t ht]
   ·rw[if_neg e,hv j t hj ht]
    congr 1
    rw[decide_eq_decide]; omega
  by_cases c2:i+N / 64+1 < 4∧N % 64≠0
  ·refine Ev.step (fun k=>?_) (next (Vector.setIfInBounds x i (zaa (List.getD (Vector.toList a) (i+N / 64) 0) (N % 64) ||| zaq (List.getD (Vector.toList a) (i+N / 64+1) 0) (64 - N % 64))) (fin _ ?_))
   ·rw[big_Right_h1.eq_2,ed,zgo (a:=N / 64) (by omega),hk,hk2,zan (by omega),if_pos (by omega),if_pos (by omega),decide_eq_true (p:=((i+N / 64+1:Nat):Int) < 4) (by omega),em,decide_eq_false (p:=((N % 64:Nat):Int)=0) (by omega)]
    simp only[eqb,cond_true,Bool.not_false]
    rw[if_pos (by omega),zl3 N hN,zGK N hN,zGd,Int.toNat_natCast,zr2 _ _ _ (by omega),Int.toNat_natCast,Int.toNat_natCast,zaj (by omega) (by omega)]
   ·intro t ht
    rw[zDr,zx5 _ _ _ (by omega),zyo _ _ _ (by omega),decide_eq_true ht,Bool.true_and,ze9,ze9,decide_eq_true c2,Bool.true_and]
  ·refine Ev.step (fun k=>?_) (next (Vector.setIfInBounds x i (zaa (List.getD (Vector.toList a) (i+N / 64) 0) (N % 64))) (fin _ ?_))
   ·rw[big_Right_h1.eq_2,ed,zgo (a:=N / 64) (by omega),hk,hk2,zan (by omega),if_pos (by omega),if_pos (by omega),em]
    by_cases c3:i+N / 64+1 < 4
    ·rw[decide_eq_true (p:=((i+N / 64+1:Nat):Int) < 4) (by omega),decide_eq_true (p:=((N % 64:Nat):Int)=0) (by omega)]
     simp only[eqb,cond_true,Bool.not_true,cond_false]
     rw[zl3 N hN,Int.toNat_natCast,Int.toNat_natCast,zaj (by omega) (by omega)]
    ·rw[decide_eq_false (p:=((i+N / 64+1:Nat):Int) < 4) (by omega)]
     simp only[eqb,cond_false]
     rw[zl3 N hN,Int.toNat_natCast,Int.toNat_natCast,zaj (by omega) (by omega)]
   ·intro t ht
    rw[zyo _ _ _ (by omega),ze9,decide_eq_false c2,Bool.false_and,Bool.or_false]
 ·intro x hv
  refine Ev.done fun k=>?_
  show big_Right_h1 (k+1) _ _ _ _ _=_
  rw[big_Right_h1.eq_2,show Int.tdiv ((N:Nat):Int) 64=((N / 64:Nat):Int)from rfl,zgo (a:=N / 64) (by omega),zaj (by omega) (by omega),zau (by omega)]
  refine congrArg some (vecI fun j t hj ht=>?_)
  rw[hv j t hj ht,Nat.testBit_div_two_pow]
  by_cases c:j < 4 - N / 64
  ·rw[decide_eq_true (by omega),Bool.true_and]
  ·rw[decide_eq_false (by omega),zsY _ _ (by omega),Bool.false_and]
 ·intro j t hj ht
  rw[zn1,decide_eq_false (by omega),Bool.false_and,Nat.zero_testBit]
end
end Go.Proofs.YtnolgfdjcipmmaaDoor.M
namespace Go.Proofs.YtnolgfdjcipmmaaDoor.M
open Go
noncomputable section
def big_Len_h0:Nat→Int→(Vector UInt64 4)→Option (Int)
 | 0,_,_=>none
 | k+1,i,a=>bif decide ((0:Int)≤i) then(if((0:Int)≤i)∧(i < (4:Int)) then
    bif !(decide ((List.getD (Vector.toList a) (Int.toNat i) (0:UInt64))=(0:UInt64))) then(some (w64 ((w64 (i*(64:Int)))+(((lenN (UInt64.toNat (List.getD (Vector.toList a) (Int.toNat i) (0:UInt64)))):Nat):Int))))
     else(big_Len_h0 k (w64 (i - (1:Int))) a)
   else none)
   else(some (0:Int))
def big_Len (k:Nat) (a:Vector UInt64 4):Option (Int) :=
 big_Len_h0 k (3:Int) a
theorem zJq (a:Vector UInt64 4) (i:Nat) (hi:i < 4) (h:∀ j,j < 4→i < j→gW a j=0):uV a / 2 ^ (64*i)=gW a i:=by
 have h0:=zje a 0
 have h1:=zje a 1
 have h2:=zje a 2
 have h3:=zje a 3
 have:i=0∨i=1∨i=2∨i=3:=by omega
 unfold uV
 rcases this with e | e | e | e<;>subst e
 ·have a1:=h 1 (by omega) (by omega)
  have a2:=h 2 (by omega) (by omega)
  have a3:=h 3 (by omega) (by omega)
  show _ / 1=_
  omega
 ·have a2:=h 2 (by omega) (by omega)
  have a3:=h 3 (by omega) (by omega)
  show _ / 18446744073709551616=_
  omega
 ·have a3:=h 3 (by omega) (by omega)
  show _ / 340282366920938463463374607431768211456=_
  omega
 ·show _ / 6277101735386680763835789423207666416102355444464034512896=_
  omega
theorem zzH (a:Vector UInt64 4):∃ k,big_Len k a=some (((lenN (uV a):Nat):Int)):=by
 show Ev (fun k=>big_Len k a) _
 refine Ev.same (fun k=>big_Len.eq_1 k a) ?_
 refine Ev.dwn (H:=fun k i (_:Unit)=>big_Len_h0 k i a) (n:=4) (fun i _=>∀ j,j < 4→i≤j→gW a j=0) ?_ ?_ 4 () (Nat.le_refl _) (fun j h1 h2=>by omega)
 ·intro i _ hi hv next
  by_cases c:List.getD (Vector.toList a) i 0=0
  ·refine Ev.step (fun k=>?_) (next () ?_)
   ·rw[big_Len_h0.eq_2,zan (by omega),if_pos (by omega),Int.toNat_natCast,decide_eq_true c,Bool.not_true,cond_false,zaj (by omega) (by omega)]
   ·intro j h1 h2
    by_cases e:i=j
    ·subst e; rw[←ze9,c]; rfl
    ·exact hv j h1 (by omega)
  ·refine Ev.done fun k=>?_
   rw[big_Len_h0.eq_2,zan (by omega),if_pos (by omega),Int.toNat_natCast,decide_eq_false c,Bool.not_false,cond_true,ze9]
   have hd:=zJq a i hi (fun j h1 h2=>hv j h1 (by omega))
   have hne:gW a i≠0:=by
    intro e
    exact c (UInt64.toNat_inj.1 e)
   have hs:=zvk (n:=uV a) (64*i) (by rw[hd]; exact hne)
   rw[hd]at hs
   have hl:lenN (gW a i)≤64:=zc2.2 (zje a i)
   rw[hs,zaj (x:=(i:Int)*64) (by omega) (by omega),zaj (by omega) (by omega)]
   refine congrArg some ?_
   omega
 ·intro _ hv
  refine Ev.done fun k=>?_
  rw[big_Len_h0.eq_2,zau (by omega)]
  have:uV a=0:=by
   unfold uV
   rw[hv 0 (by omega) (by omega),hv 1 (by omega) (by omega),hv 2 (by omega) (by omega),hv 3 (by omega) (by omega)]
  rw[this,zzS]
  rfl
end
end Go.Proofs.YtnolgfdjcipmmaaDoor.M
namespace Go.Proofs.YtnolgfdjcipmmaaDoor.M
open Go
noncomputable section
def big_Left_h1:Nat→Int→Int→(Vector UInt64 4)→(Vector UInt64 4)→(Vector UInt64 4)→Option (Vector UInt64 4)
 | 0,_,_,_,_,_=>none
 | k+1,n,i,a,t4,x_=>bif decide ((w64 (Int.tdiv n (64:Int)))≤i) then(if((0:Int)≤(w64 (i - (w64 (Int.tdiv n (64:Int))))))∧((w64 (i - (w64 (Int.tdiv n (64:Int))))) < (4:Int)) then
    if(
      (0:Int)≤i)∧(i < (4:Int)) then
     bif eqb (decide ((0:Int) < (w64 (i - (w64 (Int.tdiv n (64:Int))))))) true then(bif bif true then(!(decide ((Int.tmod n (64:Int))=(0:Int))))else false then(if((0:Int)≤(w64 ((w64 (i - (w64 (Int.tdiv n (64:Int))))) - (1:Int))))∧((w64 ((w64 (i - (w64 (Int.tdiv n (64:Int))))) - (1:Int))) < (4:Int)) then
        big_Left_h1 k n (w64 (i - (1:Int))) a t4 (Vector.setIfInBounds (Vector.setIfInBounds x_ (Int.toNat i) (zaq (List.getD (Vector.toList a) (Int.toNat (w64 (i - (w64 (Int.tdiv n (64:Int)))))) (0:UInt64)) (UInt64.toNat ((UInt64.ofInt n) % (64:UInt64))))) (Int.toNat i) ((List.getD (Vector.toList (Vector.setIfInBounds x_ (Int.toNat i) (zaq (List.getD (Vector.toList a) (Int.toNat (w64 (i - (w64 (Int.tdiv n (64:Int)))))) (0:UInt64)) (UInt64.toNat ((UInt64.ofInt n) % (64:UInt64)))))) (Int.toNat i) (0:UInt64)) ||| (zaa (List.getD (Vector.toList a) (Int.toNat (w64 ((w64 (i - (w64 (Int.tdiv n (64:Int))))) - (1:Int)))) (0:UInt64)) (UInt64.toNat ((64:UInt64) - ((UInt64.ofInt n) % (64:UInt64)))))))
       else none)
       else(big_Left_h1 k n (w64 (i - (1:Int))) a t4 (Vector.setIfInBounds x_ (Int.toNat i) (zaq (List.getD (Vector.toList a) (Int.toNat (w64 (i - (w64 (Int.tdiv n (64:Int)))))) (0:UInt64)) (UInt64.toNat ((UInt64.ofInt n) % (64:UInt64)))))))
      else(big_Left_h1 k n (w64 (i - (1:Int))) a t4 (Vector.setIfInBounds x_ (Int.toNat i) (zaq (List.getD (Vector.toList a) (Int.toNat (w64 (i - (w64 (Int.tdiv n (64:Int)))))) (0:UInt64)) (UInt64.toNat ((UInt64.ofInt n) % (64:UInt64))))))
    else none
   else none)
   else(some x_)
def big_Left (k:Nat) (a:Vector UInt64 4) (n:Int):Option (Vector UInt64 4) :=
 bif decide (n≤(0:Int)) then(some a)
  else(bif decide ((256:Int)≤n) then(some (Vector.replicate 4 (0:UInt64)))
   else(big_Left_h1 k n (3:Int) a (Vector.replicate 4 (0:UInt64)) (Vector.replicate 4 (0:UInt64))))
theorem zwE (a:Vector UInt64 4) (n:Int) (h:-9223372036854775808≤n∧n < 9223372036854775808):∃ k,big_Left k a n=some (uW (uV a*2 ^ n.toNat)):=by
 show Ev (fun k=>big_Left k a n) _
 refine Ev.same (fun k=>big_Left.eq_1 k a n) ?_
 by_cases c0:n≤0
 ·refine Ev.done0 fun k=>?_
  rw[zan c0,show n.toNat=0 by omega,Nat.pow_zero,Nat.mul_one,zBZ]
 by_cases c1:256≤n
 ·refine Ev.done0 fun k=>?_
  rw[zau c0,zan c1]
  refine congrArg some (zim fun i hi=>?_)
  rw[zr3,zmh,Nat.testBit_mul_two_pow,decide_eq_false (p:=n.toNat≤i) (by omega),Bool.false_and,Bool.and_false,Nat.zero_testBit]
 obtain ⟨N,rfl⟩:∃ N:Nat,n=(N:Int):=⟨n.toNat,by omega⟩
 have hN:N < 256:=by omega
 refine Ev.same (fun k=>by rw[zau c0,zau c1]) ?_
 rw[Int.toNat_natCast]
 have:=Ev.dwn (H:=fun k i x=>big_Left_h1 k (N:Int) (i+((N / 64:Nat):Int)) a (Vector.replicate 4 0) x) (n:=4 - N / 64) (r:=uW (uV a*2 ^ N))
  (fun i x=>∀ j t,j < 4→t < 64→(gW x j).testBit t=(decide (i+N / 64≤j) && (uV a*2 ^ N).testBit (64*j+t))) ?_ ?_ (4 - N / 64) (Vector.replicate 4 0) (Nat.le_refl _) ?_
 ·rw[show ((4 - N / 64:Nat):Int) - 1+((N / 64:Nat):Int)=3 by omega]at this
  exact this
 ·intro i x hi hv next
  have ed:Int.tdiv ((N:Nat):Int) 64=((N / 64:Nat):Int):=rfl
  have em:Int.tmod ((N:Nat):Int) 64=((N % 64:Nat):Int):=rfl
  have hk:w64 (((i:Int)+((N / 64:Nat):Int)) - ((N / 64:Nat):Int))=(i:Int):=by rw[zaj (by omega) (by omega)]; omega
  have hi4:i+N / 64 < 4:=by omega
  have et:Int.toNat ((i:Int)+((N / 64:Nat):Int))=i+N / 64:=by omega
  have fin:∀ w:UInt64,(∀ t,t < 64→w.toNat.testBit t=((decide (N % 64≤t) && (gW a i).testBit (t - N % 64)) || (decide (0 < i∧N % 64≠0) && (gW a (i - 1)).testBit (t+(64 - N % 64))))) →
    ∀ j t,j < 4→t < 64→(gW (Vector.setIfInBounds x (i+N / 64) w) j).testBit t=(decide (i+N / 64≤j) && (uV a*2 ^ N).testBit (64*j+t)):=by
   intro w hw j t hj ht
   rw[znR _ _ _ _ hi4]
   by_cases e:i+N / 64=j
   ·subst e
    have:=zFU a N (i+N / 64) hN hj (by omega) t ht
    rw[show i+N / 64 - N / 64=i by omega]at this
    rw[if_pos rfl,hw t ht,decide_eq_true (Nat.le_refl _),Bool.true_and,this]
   ·rw[if_neg e,hv j t hj ht]
    congr 1
    rw[decide_eq_decide]; omega
  by_cases c2:0 < i∧N % 64≠0
  ·refine Ev.step (fun k=>?_) (next (Vector.setIfInBounds x (i+N / 64) (zaq (List.getD (Vector.toList a) i 0) (N % 64) ||| zaa (List.getD (Vector.toList a) (i - 1) 0) (64 - N % 64))) (fin _ ?_))
   ·rw[big_Left_h1.eq_2,ed,zgo (a:=N / 64) (by omega),zan (by omega),hk,if_pos (by omega),if_pos (by omega),decide_eq_true (p:=(0:Int) < (i:Int)) (by omega),em,decide_eq_false (p:=((N % 64:Nat):Int)=0) (by omega)]
    simp only[eqb,cond_true,Bool.not_false]
    rw[zaj (x:=(i:Int) - 1) (by omega) (by omega),if_pos (by omega),zl3 N hN,zGK N hN,et,zGd,zr2 _ _ _ (by omega),Int.toNat_natCast,show Int.toNat ((i:Int) - 1)=i - 1 by omega,zaj (by omega) (by omega),show (i:Int)+((N / 64:Nat):Int) - 1=(i:Int) - 1+((N / 64:Nat):Int) by omega]
   ·intro t ht
    rw[zDr,zx5 _ _ _ (by omega),zyo _ _ _ (by omega),decide_eq_true ht,Bool.true_and,ze9,ze9,decide_eq_true c2,Bool.true_and]
  ·refine Ev.step (fun k=>?_) (next (Vector.setIfInBounds x (i+N / 64) (zaq (List.getD (Vector.toList a) i 0) (N % 64))) (fin _ ?_))
   ·rw[big_Left_h1.eq_2,ed,zgo (a:=N / 64) (by omega),zan (by omega),hk,if_pos (by omega),if_pos (by omega),em]
    by_cases c3:0 < i
    ·rw[decide_eq_true (p:=(0:Int) < (i:Int)) (by omega),decide_eq_true (p:=((N % 64:Nat):Int)=0) (by omega)]
     simp only[eqb,cond_true,Bool.not_true,cond_false]
     rw[zl3 N hN,et,Int.toNat_natCast,zaj (by omega) (by omega),show (i:Int)+((N / 64:Nat):Int) - 1=(i:Int) - 1+((N / 64:Nat):Int) by omega]
    ·rw[decide_eq_false (p:=(0:Int) < (i:Int)) (by omega)]
     simp only[eqb,cond_false]
     rw[zl3 N hN,et,Int.toNat_natCast,zaj (by omega) (by omega),show (i:Int)+((N / 64:Nat):Int) - 1=(i:Int) - 1+((N / 64:Nat):Int) by omega]
   ·intro t ht
    rw[zx5 _ _ _ (by omega),decide_eq_true ht,Bool.true_and,ze9,decide_eq_false c2,Bool.false_and,Bool.or_false]
 ·intro x hv
  refine Ev.done fun k=>?_
  show big_Left_h1 (k+1) _ _ _ _ _=_
  rw[big_Left_h1.eq_2,show Int.tdiv ((N:Nat):Int) 64=((N / 64:Nat):Int)from rfl,zgo (a:=N / 64) (by omega),zau (by omega)]
  refine congrArg some (vecI fun j t hj ht=>?_)
  rw[hv j t hj ht,Nat.testBit_mul_two_pow]
  by_cases c:N / 64≤j
  ·rw[decide_eq_true (by omega),Bool.true_and]
  ·rw[decide_eq_false (by omega),decide_eq_false (by omega),Bool.false_and,Bool.false_and]
 ·intro j t hj ht
  rw[zn1,decide_eq_false (by omega),Bool.false_and,Nat.zero_testBit]
end
end Go.Proofs.YtnolgfdjcipmmaaDoor.M
namespace Go.Proofs.YtnolgfdjcipmmaaDoor.M
open Go
noncomputable section
def big_Add_h0:Nat→UInt64→Int→(Vector UInt64 4)→(Vector UInt64 4)→(Vector UInt64 4)→Option (Vector UInt64 4 × Bool)
 | 0,_,_,_,_,_=>none
 | k+1,c,t8,a,b,t4=>bif decide (t8 < (4:Int)) then(if((0:Int)≤t8)∧(t8 < (4:Int)) then
    if(UInt64.toNat c)≤(1:Nat) then
     big_Add_h0 k (zhY (List.getD (Vector.toList a) (Int.toNat t8) (0:UInt64)) (List.getD (Vector.toList b) (Int.toNat t8) (0:UInt64)) c) (w64 (t8+(1:Int))) (Vector.setIfInBounds a (Int.toNat t8) (((List.getD (Vector.toList a) (Int.toNat t8) (0:UInt64))+(List.getD (Vector.toList b) (Int.toNat t8) (0:UInt64)))+c)) b t4
    else none
   else none)
   else(some (a,(!(decide (c=(0:UInt64))))))
def big_Add (k:Nat) (a:Vector UInt64 4) (b:Vector UInt64 4):Option (Vector UInt64 4 × Bool) :=
 big_Add_h0 k (0:UInt64) (0:Int) a b (Vector.replicate 4 (0:UInt64))
theorem zwh (a b:Vector UInt64 4):∃ k,big_Add k a b=some (addS a b):=by
 show Ev (fun k=>big_Add k a b) _
 refine Ev.same (fun k=>big_Add.eq_1 k a b) ?_
 have st:∀ (i:Nat),i < 4→∀ (c:UInt64) (v:Vector UInt64 4),c.toNat≤1→∀ f,big_Add_h0 (f+1) c (i:Int) v b (Vector.replicate 4 0) =
   big_Add_h0 f (zhY (List.getD (Vector.toList v) i 0) (List.getD (Vector.toList b) i 0) c) ((i:Int)+1) (Vector.setIfInBounds v i (List.getD (Vector.toList v) i 0+List.getD (Vector.toList b) i 0+c)) b (Vector.replicate 4 0):=by
  intro i hi c v hc f
  rw[big_Add_h0.eq_2,zan (by omega),if_pos (by omega),if_pos hc,Int.toNat_natCast,zaj (by omega) (by omega)]
 have hv:∀ x y c:UInt64,c.toNat≤1→(zhY x y c).toNat=(x.toNat+y.toNat+c.toNat) / 18446744073709551616:=by
  intro x y c hc
  have:=x.toNat_lt
  have:=y.toNat_lt
  unfold zhY
  rw[UInt64.toNat_ofNat']; omega
 have hs:∀ x y c:UInt64,(x+y+c).toNat=(x.toNat+y.toNat+c.toNat) % 18446744073709551616:=by
  intro x y c
  rw[UInt64.toNat_add,UInt64.toNat_add]; omega
 have c1:∀ x y c:UInt64,c.toNat≤1→(zhY x y c).toNat≤1:=by
  intro x y c hc
  have:=x.toNat_lt
  have:=y.toNat_lt
  rw[hv x y c hc]; omega
 let x0:=List.getD (Vector.toList a) 0 0
 let x1:=List.getD (Vector.toList a) 1 0
 let x2:=List.getD (Vector.toList a) 2 0
 let x3:=List.getD (Vector.toList a) 3 0
 let y0:=List.getD (Vector.toList b) 0 0
 let y1:=List.getD (Vector.toList b) 1 0
 let y2:=List.getD (Vector.toList b) 2 0
 let y3:=List.getD (Vector.toList b) 3 0
 let k1:=zhY x0 y0 0
 let k2:=zhY x1 y1 k1
 let k3:=zhY x2 y2 k2
 let k4:=zhY x3 y3 k3
 have z0:(0:UInt64).toNat≤1:=by decide
 have z1:=c1 x0 y0 0 z0
 have z2:=c1 x1 y1 k1 z1
 have z3:=c1 x2 y2 k2 z2
 let v1:=Vector.setIfInBounds a 0 (x0+y0+0)
 let v2:=Vector.setIfInBounds v1 1 (x1+y1+k1)
 let v3:=Vector.setIfInBounds v2 2 (x2+y2+k2)
 let v4:=Vector.setIfInBounds v3 3 (x3+y3+k3)
 have g1:List.getD (Vector.toList v1) 1 0=x1:=by rw[zax _ _ _ _ _ (by omega),if_neg (by omega)]
 have g2:List.getD (Vector.toList v2) 2 0=x2:=by rw[zax _ _ _ _ _ (by omega),if_neg (by omega),zax _ _ _ _ _ (by omega),if_neg (by omega)]
 have g3:List.getD (Vector.toList v3) 3 0=x3:=by rw[zax _ _ _ _ _ (by omega),if_neg (by omega),zax _ _ _ _ _ (by omega),if_neg (by omega),zax _ _ _ _ _ (by omega),if_neg (by omega)]
 refine Ev.step (fun f=>st 0 (by omega) 0 a z0 f) (Ev.step (fun f=>st 1 (by omega) k1 v1 z1 f) ?_)
 rw[g1]
 refine Ev.step (fun f=>st 2 (by omega) k2 v2 z2 f) ?_
 rw[g2]
 refine Ev.step (fun f=>st 3 (by omega) k3 v3 z3 f) ?_
 rw[g3]
 refine Ev.done fun f=>?_
 show big_Add_h0 (f+1) k4 _ v4 b (Vector.replicate 4 0)=_
 rw[big_Add_h0.eq_2,zau (by omega)]
 have hx:uV a=x0.toNat+18446744073709551616*(x1.toNat+18446744073709551616*(x2.toNat+18446744073709551616*x3.toNat)):=rfl
 have hy:uV b=y0.toNat+18446744073709551616*(y1.toNat+18446744073709551616*(y2.toNat+18446744073709551616*y3.toNat)):=rfl
 have w0:gW v4 0=(x0+y0+0).toNat:=by unfold gW; rw[zax _ _ _ _ _ (by omega),if_neg (by omega),zax _ _ _ _ _ (by omega),if_neg (by omega),zax _ _ _ _ _ (by omega),if_neg (by omega),zax _ _ _ _ _ (by omega),if_pos rfl]
 have w1:gW v4 1=(x1+y1+k1).toNat:=by unfold gW; rw[zax _ _ _ _ _ (by omega),if_neg (by omega),zax _ _ _ _ _ (by omega),if_neg (by omega),zax _ _ _ _ _ (by omega),if_pos rfl]
 have w2:gW v4 2=(x2+y2+k2).toNat:=by unfold gW; rw[zax _ _ _ _ _ (by omega),if_neg (by omega),zax _ _ _ _ _ (by omega),if_pos rfl]
 have w3:gW v4 3=(x3+y3+k3).toNat:=by unfold gW; rw[zax _ _ _ _ _ (by omega),if_pos rfl]
 have e1:k1.toNat=_:=hv x0 y0 0 z0
 have e2:k2.toNat=_:=hv x1 y1 k1 z1
 have e3:k3.toNat=_:=hv x2 y2 k2 z2
 have e4:k4.toNat=_:=hv x3 y3 k3 z3
 rw[hs]at w0 w1 w2 w3
 rw[show (0:UInt64).toNat=0 from rfl]at w0 e1
 have lx0:=x0.toNat_lt
 have lx1:=x1.toNat_lt
 have lx2:=x2.toNat_lt
 have lx3:=x3.toNat_lt
 have ly0:=y0.toNat_lt
 have ly1:=y1.toNat_lt
 have ly2:=y2.toNat_lt
 have ly3:=y3.toNat_lt
 have hval:uV v4+115792089237316195423570985008687907853269984665640564039457584007913129639936*k4.toNat=uV a+uV b:=by
  rw[hx,hy]
  unfold uV
  rw[w0,w1,w2,w3]
  generalize x0.toNat=a0 at *
  generalize x1.toNat=a1 at *
  generalize x2.toNat=a2 at *
  generalize x3.toNat=a3 at *
  generalize y0.toNat=b0 at *
  generalize y1.toNat=b1 at *
  generalize y2.toNat=b2 at *
  generalize y3.toNat=b3 at *
  generalize k1.toNat=n1 at *
  generalize k2.toNat=n2 at *
  generalize k3.toNat=n3 at *
  generalize k4.toNat=n4 at *
  omega
 have hlt:=zgl v4
 have hk4:(k4=0)↔k4.toNat=0:=by rw[←UInt64.toNat_inj]; rfl
 unfold addS
 refine congrArg some (Prod.ext (zpT ?_) ?_)
 ·rw[zfy]
  show uV v4=_
  omega
 ·show (!decide (k4=0))=decide _
  rw[←decide_not,decide_eq_decide,hk4]
  omega
theorem zAu (a b:Vector UInt64 4):∃ k,big_Add k a b=some (addV a b,addB a b):=by
 rw[←zG2]
 exact zwh a b
end
end Go.Proofs.YtnolgfdjcipmmaaDoor.M
namespace Go.Proofs.YtnolgfdjcipmmaaDoor.M
open Go
noncomputable section
def big_Sub_h0:Nat→UInt64→Int→(Vector UInt64 4)→(Vector UInt64 4)→(Vector UInt64 4)→Option (Vector UInt64 4 × Bool)
 | 0,_,_,_,_,_=>none
 | k+1,c,t8,a,b,t4=>bif decide (t8 < (4:Int)) then(if((0:Int)≤t8)∧(t8 < (4:Int)) then
    if(UInt64.toNat c)≤(1:Nat) then
     big_Sub_h0 k (zmE (List.getD (Vector.toList a) (Int.toNat t8) (0:UInt64)) (List.getD (Vector.toList b) (Int.toNat t8) (0:UInt64)) c) (w64 (t8+(1:Int))) (Vector.setIfInBounds a (Int.toNat t8) (((List.getD (Vector.toList a) (Int.toNat t8) (0:UInt64)) - (List.getD (Vector.toList b) (Int.toNat t8) (0:UInt64))) - c)) b t4
    else none
   else none)
   else(some (a,(!(decide (c=(0:UInt64))))))
def big_Sub (k:Nat) (a:Vector UInt64 4) (b:Vector UInt64 4):Option (Vector UInt64 4 × Bool) :=
 big_Sub_h0 k (0:UInt64) (0:Int) a b (Vector.replicate 4 (0:UInt64))
theorem zIU {v A B k:Nat} (h:115792089237316195423570985008687907853269984665640564039457584007913129639936*k+A=v+B) (h1:v < 115792089237316195423570985008687907853269984665640564039457584007913129639936) (h2:A < 115792089237316195423570985008687907853269984665640564039457584007913129639936) (h3:B < 115792089237316195423570985008687907853269984665640564039457584007913129639936) :
  v=(A+115792089237316195423570985008687907853269984665640564039457584007913129639936 - B) % 115792089237316195423570985008687907853269984665640564039457584007913129639936∧(¬ k=0↔A < B):=by
 omega
theorem sub4 (g0 g1 g2 g3 x0 x1 x2 x3 y0 y1 y2 y3 k1 k2 k3 k4:Nat) (e1:g0+y0+0=x0+18446744073709551616*k1) (e2:g1+y1+k1=x1+18446744073709551616*k2) (e3:g2+y2+k2=x2+18446744073709551616*k3) (e4:g3+y3+k3=x3+18446744073709551616*k4) :
  115792089237316195423570985008687907853269984665640564039457584007913129639936*k4+(x0+18446744073709551616*(x1+18446744073709551616*(x2+18446744073709551616*x3)))=(g0+18446744073709551616*(g1+18446744073709551616*(g2+18446744073709551616*g3)))+(y0+18446744073709551616*(y1+18446744073709551616*(y2+18446744073709551616*y3))):=by
 omega
theorem zw4 (a b:Vector UInt64 4):∃ k,big_Sub k a b=some (subS a b):=by
 show Ev (fun k=>big_Sub k a b) _
 refine Ev.same (fun k=>big_Sub.eq_1 k a b) ?_
 have st:∀ (i:Nat),i < 4→∀ (c:UInt64) (v:Vector UInt64 4),c.toNat≤1→∀ f,big_Sub_h0 (f+1) c (i:Int) v b (Vector.replicate 4 0) =
   big_Sub_h0 f (zmE (List.getD (Vector.toList v) i 0) (List.getD (Vector.toList b) i 0) c) ((i:Int)+1) (Vector.setIfInBounds v i (List.getD (Vector.toList v) i 0 - List.getD (Vector.toList b) i 0 - c)) b (Vector.replicate 4 0):=by
  intro i hi c v hc f
  rw[big_Sub_h0.eq_2,zan (by omega),if_pos (by omega),if_pos hc,Int.toNat_natCast,zaj (by omega) (by omega)]
 have hv:∀ x y c:UInt64,c.toNat≤1→(zmE x y c).toNat=if x.toNat < y.toNat+c.toNat then 1 else 0:=by
  intro x y c hc
  unfold zmE
  split<;>rfl
 have hs:∀ x y c:UInt64,(x - y - c).toNat=(x.toNat+36893488147419103232 - y.toNat - c.toNat) % 18446744073709551616:=by
  intro x y c
  have:=x.toNat_lt
  have:=y.toNat_lt
  have:=c.toNat_lt
  rw[UInt64.toNat_sub,UInt64.toNat_sub]; omega
 have c1:∀ x y c:UInt64,c.toNat≤1→(zmE x y c).toNat≤1:=by
  intro x y c hc
  have:=x.toNat_lt
  have:=y.toNat_lt
  rw[hv x y c hc]; split<;>omega
 let x0:=List.getD (Vector.toList a) 0 0
 let x1:=List.getD (Vector.toList a) 1 0
 let x2:=List.getD (Vector.toList a) 2 0
 let x3:=List.getD (Vector.toList a) 3 0
 let y0:=List.getD (Vector.toList b) 0 0
 let y1:=List.getD (Vector.toList b) 1 0
 let y2:=List.getD (Vector.toList b) 2 0
 let y3:=List.getD (Vector.toList b) 3 0
 let k1:=zmE x0 y0 0
 let k2:=zmE x1 y1 k1
 let k3:=zmE x2 y2 k2
 let k4:=zmE x3 y3 k3
 have z0:(0:UInt64).toNat≤1:=by decide
 have z1:=c1 x0 y0 0 z0
 have z2:=c1 x1 y1 k1 z1
 have z3:=c1 x2 y2 k2 z2
 let v1:=Vector.setIfInBounds a 0 (x0 - y0 - 0)
 let v2:=Vector.setIfInBounds v1 1 (x1 - y1 - k1)
 let v3:=Vector.setIfInBounds v2 2 (x2 - y2 - k2)
 let v4:=Vector.setIfInBounds v3 3 (x3 - y3 - k3)
 have g1:List.getD (Vector.toList v1) 1 0=x1:=by rw[zax _ _ _ _ _ (by omega),if_neg (by omega)]
 have g2:List.getD (Vector.toList v2) 2 0=x2:=by rw[zax _ _ _ _ _ (by omega),if_neg (by omega),zax _ _ _ _ _ (by omega),if_neg (by omega)]
 have g3:List.getD (Vector.toList v3) 3 0=x3:=by rw[zax _ _ _ _ _ (by omega),if_neg (by omega),zax _ _ _ _ _ (by omega),if_neg (by omega),zax _ _ _ _ _ (by omega),if_neg (by omega)]
 refine Ev.step (fun f=>st 0 (by omega) 0 a z0 f) (Ev.step (fun f=>st 1 (by omega) k1 v1 z1 f) ?_)
 rw[g1]
 refine Ev.step (fun f=>st 2 (by omega) k2 v2 z2 f) ?_
 rw[g2]
 refine Ev.step (fun f=>st 3 (by omega) k3 v3 z3 f) ?_
 rw[g3]
 refine Ev.done fun f=>?_
 show big_Sub_h0 (f+1) k4 _ v4 b (Vector.replicate 4 0)=_
 rw[big_Sub_h0.eq_2,zau (by omega)]
 have w0:gW v4 0=(x0 - y0 - 0).toNat:=by unfold gW; rw[zax _ _ _ _ _ (by omega),if_neg (by omega),zax _ _ _ _ _ (by omega),if_neg (by omega),zax _ _ _ _ _ (by omega),if_neg (by omega),zax _ _ _ _ _ (by omega),if_pos rfl]
 have w1:gW v4 1=(x1 - y1 - k1).toNat:=by unfold gW; rw[zax _ _ _ _ _ (by omega),if_neg (by omega),zax _ _ _ _ _ (by omega),if_neg (by omega),zax _ _ _ _ _ (by omega),if_pos rfl]
 have w2:gW v4 2=(x2 - y2 - k2).toNat:=by unfold gW; rw[zax _ _ _ _ _ (by omega),if_neg (by omega),zax _ _ _ _ _ (by omega),if_pos rfl]
 have w3:gW v4 3=(x3 - y3 - k3).toNat:=by unfold gW; rw[zax _ _ _ _ _ (by omega),if_pos rfl]
 have word:∀ x y c:UInt64,c.toNat≤1→(x - y - c).toNat+y.toNat+c.toNat=x.toNat+18446744073709551616*(zmE x y c).toNat:=by
  intro x y c hc
  have lx:=x.toNat_lt
  have ly:=y.toNat_lt
  rw[hs,hv x y c hc]
  split<;>omega
 have e1:=word x0 y0 0 z0
 have e2:=word x1 y1 k1 z1
 have e3:=word x2 y2 k2 z2
 have e4:=word x3 y3 k3 z3
 rw[←w0,show (0:UInt64).toNat=0 from rfl]at e1
 rw[←w1]at e2
 rw[←w2]at e3
 rw[←w3]at e4
 have hval:115792089237316195423570985008687907853269984665640564039457584007913129639936*k4.toNat+uV a=uV v4+uV b:=sub4 (gW v4 0) (gW v4 1) (gW v4 2) (gW v4 3) x0.toNat x1.toNat x2.toNat x3.toNat y0.toNat y1.toNat y2.toNat y3.toNat k1.toNat k2.toNat k3.toNat k4.toNat e1 e2 e3 e4
 have hlt:=zgl v4
 have hla:=zgl a
 have hlb:=zgl b
 have hk4:(k4=0)↔k4.toNat=0:=by rw[←UInt64.toNat_inj]; rfl
 have r:=@zIU (uV v4) (uV a) (uV b) k4.toNat hval hlt hla hlb
 have fin:∀ (v:Vector UInt64 4) (k:UInt64),((k=0)↔k.toNat=0)→(uV v=(uV a+115792089237316195423570985008687907853269984665640564039457584007913129639936 - uV b) % 115792089237316195423570985008687907853269984665640564039457584007913129639936∧(¬ k.toNat=0↔uV a < uV b))→(v,!decide (k=0))=subS a b:=by
  intro v k hk r
  unfold subS
  refine Prod.ext (zpT ?_) ?_
  ·show uV v=uV (uW _)
   rw[zfy]
   exact r.1
  ·show (!decide (k=0))=decide _
   rw[←decide_not,decide_eq_decide,hk]
   exact r.2
 exact congrArg some (fin v4 k4 hk4 r)
theorem zyU (a b:Vector UInt64 4):∃ k,big_Sub k a b=some (subV a b,subB a b):=by
 rw[zB7,zgr]
 exact zw4 a b
end
end Go.Proofs.YtnolgfdjcipmmaaDoor.M
namespace Go.Proofs.YtnolgfdjcipmmaaDoor.M
open Go
noncomputable section
def big_bit (a:Vector UInt64 4) (n:Int):Option (Bool) :=
 if((0:Int)≤(w64 (Int.tdiv n (64:Int))))∧((w64 (Int.tdiv n (64:Int))) < (4:Int)) then
  some (!(decide (((zaa (List.getD (Vector.toList a) (Int.toNat (w64 (Int.tdiv n (64:Int)))) (0:UInt64)) (UInt64.toNat ((UInt64.ofInt n) % (64:UInt64)))) &&& (1:UInt64))=(0:UInt64))))
 else none
theorem zAV (a:Vector UInt64 4) (n:Int) (h:0≤n∧n < 256):big_bit a n=some ((uV a).testBit n.toNat):=by
 obtain ⟨N,rfl⟩:∃ N:Nat,n=(N:Int):=⟨n.toNat,by omega⟩
 have hN:N < 256:=by omega
 rw[big_bit,show Int.tdiv ((N:Nat):Int) 64=((N / 64:Nat):Int)from rfl,zgo (by omega),if_pos (by omega),zl3 N hN,Int.toNat_natCast,Int.toNat_natCast,zrz a N hN]
 refine congrArg some ?_
 have e:=zyo (List.getD (Vector.toList a) (N / 64) 0) (N % 64) 0 (by omega)
 rw[Nat.zero_add,ze9]at e
 rw[←e,←decide_not,Nat.testBit_zero,decide_eq_decide,←UInt64.toNat_inj,UInt64.toNat_and,show (1:UInt64).toNat=1 from rfl,Nat.and_one_is_mod,show (0:UInt64).toNat=0 from rfl]
 omega
end
end Go.Proofs.YtnolgfdjcipmmaaDoor.M
namespace Go.Proofs.YtnolgfdjcipmmaaDoor.M
open Go
noncomputable section
def big_Over_h0:Nat→Int→(Vector UInt64 4)→(Vector UInt64 4)→(Vector UInt64 4)→(Vector UInt64 4)→Option (Vector UInt64 4 × Vector UInt64 4 × Int)
 | 0,_,_,_,_,_=>none
 | k+1,n,a,b,q,r_=>bif decide ((0:Int)≤n) then(if((0:Int)≤n)∧(n < (256:Int)) then
    bif Nat.testBit (uV a) (Int.toNat n) then(bif eqb (Nat.testBit (uV r_) (255:Nat)) false then(bif bif false then true else(!(subB (Vector.setIfInBounds (uW ((uV r_)*((2:Nat) ^ (1:Nat)))) (0:Nat) ((List.getD (Vector.toList (uW ((uV r_)*((2:Nat) ^ (1:Nat))))) (0:Nat) (0:UInt64)) ||| (1:UInt64))) b)) then(if((0:Int)≤(w64 (Int.tdiv n (64:Int))))∧((w64 (Int.tdiv n (64:Int))) < (4:Int)) then
        big_Over_h0 k (w64 (n - (1:Int))) a b (Vector.setIfInBounds q (Int.toNat (w64 (Int.tdiv n (64:Int)))) ((List.getD (Vector.toList q) (Int.toNat (w64 (Int.tdiv n (64:Int)))) (0:UInt64)) ||| (zaq (1:UInt64) (UInt64.toNat ((UInt64.ofInt n) % (64:UInt64)))))) (subV (Vector.setIfInBounds (uW ((uV r_)*((2:Nat) ^ (1:Nat)))) (0:Nat) ((List.getD (Vector.toList (uW ((uV r_)*((2:Nat) ^ (1:Nat))))) (0:Nat) (0:UInt64)) ||| (1:UInt64))) b)
       else none)
       else(big_Over_h0 k (w64 (n - (1:Int))) a b q (Vector.setIfInBounds (uW ((uV r_)*((2:Nat) ^ (1:Nat)))) (0:Nat) ((List.getD (Vector.toList (uW ((uV r_)*((2:Nat) ^ (1:Nat))))) (0:Nat) (0:UInt64)) ||| (1:UInt64)))))
      else(if((0:Int)≤(w64 (Int.tdiv n (64:Int))))∧((w64 (Int.tdiv n (64:Int))) < (4:Int)) then
       big_Over_h0 k (w64 (n - (1:Int))) a b (Vector.setIfInBounds q (Int.toNat (w64 (Int.tdiv n (64:Int)))) ((List.getD (Vector.toList q) (Int.toNat (w64 (Int.tdiv n (64:Int)))) (0:UInt64)) ||| (zaq (1:UInt64) (UInt64.toNat ((UInt64.ofInt n) % (64:UInt64)))))) (subV (Vector.setIfInBounds (uW ((uV r_)*((2:Nat) ^ (1:Nat)))) (0:Nat) ((List.getD (Vector.toList (uW ((uV r_)*((2:Nat) ^ (1:Nat))))) (0:Nat) (0:UInt64)) ||| (1:UInt64))) b)
      else none))
     else(
        bif eqb (Nat.testBit (uV r_) (255:Nat)) false then(bif bif false then true else(!(subB (uW ((uV r_)*((2:Nat) ^ (1:Nat)))) b)) then(if((0:Int)≤(w64 (Int.tdiv n (64:Int))))∧((w64 (Int.tdiv n (64:Int))) < (4:Int)) then
        big_Over_h0 k (w64 (n - (1:Int))) a b (Vector.setIfInBounds q (Int.toNat (w64 (Int.tdiv n (64:Int)))) ((List.getD (Vector.toList q) (Int.toNat (w64 (Int.tdiv n (64:Int)))) (0:UInt64)) ||| (zaq (1:UInt64) (UInt64.toNat ((UInt64.ofInt n) % (64:UInt64)))))) (subV (uW ((uV r_)*((2:Nat) ^ (1:Nat)))) b)
       else none)
       else(big_Over_h0 k (w64 (n - (1:Int))) a b q (uW ((uV r_)*((2:Nat) ^ (1:Nat))))))
      else(if((0:Int)≤(w64 (Int.tdiv n (64:Int))))∧((w64 (Int.tdiv n (64:Int))) < (4:Int)) then
       big_Over_h0 k (w64 (n - (1:Int))) a b (Vector.setIfInBounds q (Int.toNat (w64 (Int.tdiv n (64:Int)))) ((List.getD (Vector.toList q) (Int.toNat (w64 (Int.tdiv n (64:Int)))) (0:UInt64)) ||| (zaq (1:UInt64) (UInt64.toNat ((UInt64.ofInt n) % (64:UInt64)))))) (subV (uW ((uV r_)*((2:Nat) ^ (1:Nat)))) b)
      else none))
   else none)
   else(some (q,r_,(0:Int)))
def big_Over (k:Nat) (a:Vector UInt64 4) (b:Vector UInt64 4):Option (Vector UInt64 4 × Vector UInt64 4 × Int) :=
 bif decide ((Vector.toList b)=(Vector.toList (Vector.replicate 4 (0:UInt64)))) then(some ((Vector.replicate 4 (0:UInt64)),(Vector.replicate 4 (0:UInt64)),(2:Int)))
  else(big_Over_h0 k (w64 ((((lenN (uV a)):Nat):Int) - (1:Int))) a b (Vector.replicate 4 (0:UInt64)) (Vector.replicate 4 (0:UInt64)))
theorem zwL (a b:Vector UInt64 4):∃ k,big_Over k a b=some (ovQ a b,ovR a b,ovE b):=by
 show Ev (fun k=>big_Over k a b) _
 refine Ev.same (fun k=>big_Over.eq_1 k a b) ?_
 by_cases c0:Vector.toList b=Vector.toList (Vector.replicate 4 0)
 ·refine Ev.done0 fun k=>?_
  rw[zan c0]
  rw[zmM]at c0
  rw[zvx,zAI,zDN]
  rw[c0,if_pos rfl,if_pos rfl,Nat.div_zero]
  rfl
 refine Ev.same (fun k=>zau c0) ?_
 rw[zmM]at c0
 have hB:0 < uV b:=by omega
 have hL:lenN (uV a)≤256:=zc2.2 (by rw[zdD]; exact zgl a)
 have hA:uV a < 2 ^ lenN (uV a):=zc2.1 (Nat.le_refl _)
 rw[zaj (by omega) (by omega)]
 refine Ev.dwn (H:=fun k i (s:Vector UInt64 4 × Vector UInt64 4)=>big_Over_h0 k i a b s.1 s.2) (n:=256)
  (fun i s=>(∀ j,j < 256→(uV s.1).testBit j=(decide (i≤j) && (uV a / uV b).testBit j))∧uV s.2=uV a / 2 ^ i % uV b) ?_ ?_ (lenN (uV a)) (_,_) hL ?_
 ·rintro i ⟨q,r⟩ hi ⟨hq,hr⟩ next
  simp only at hq hr next
  have hT:∀ (r':Vector UInt64 4),uV r'=uV a / 2 ^ i % uV b→(uV a / uV b).testBit i=true→Ev (fun k=>big_Over_h0 k ((i:Int) - 1) a b (Vector.setIfInBounds q (i / 64) (List.getD (Vector.toList q) (i / 64) 0 ||| zaq 1 (i % 64))) r') (ovQ a b,ovR a b,ovE b):=by
   intro r' h1 h2
   refine next (Vector.setIfInBounds q (i / 64) (List.getD (Vector.toList q) (i / 64) 0 ||| zaq 1 (i % 64)),r') ⟨fun j hj=>?_,h1⟩
   show (uV (Vector.setIfInBounds q _ _)).testBit j=_
   rw[zJW _ _ _ hi hj,hq j hj]
   by_cases e:j=i
   ·subst e; rw[decide_eq_true rfl,h2,Bool.or_true,decide_eq_true (Nat.le_refl _)]; rfl
   ·rw[decide_eq_false e,Bool.or_false]
    congr 1
    rw[decide_eq_decide]; omega
  have hU:∀ (r':Vector UInt64 4),uV r'=uV a / 2 ^ i % uV b→(uV a / uV b).testBit i=false→Ev (fun k=>big_Over_h0 k ((i:Int) - 1) a b q r') (ovQ a b,ovR a b,ovE b):=by
   intro r' h1 h2
   refine next (q,r') ⟨fun j hj=>?_,h1⟩
   show (uV q).testBit j=_
   rw[hq j hj]
   by_cases e:j=i
   ·subst e; rw[h2,Bool.and_false,Bool.and_false]
   ·congr 1
    rw[decide_eq_decide]; omega
  have ed:Int.tdiv (i:Int) 64=((i / 64:Nat):Int):=rfl
  have key:∀ (x:Bool),x=(uV a).testBit i→∀ Y,Y=uW (2*uV r+x.toNat)→∀ F:Nat→Option (Vector UInt64 4 × Vector UInt64 4 × Int),(∀ k,F (k+1)=(bif eqb (Nat.testBit (uV r) 255) false then(bif bif false then true else !(subB Y b)then big_Over_h0 k ((i:Int) - 1) a b (Vector.setIfInBounds q (i / 64) (List.getD (Vector.toList q) (i / 64) 0 ||| zaq 1 (i % 64))) (subV Y b)else big_Over_h0 k ((i:Int) - 1) a b q Y)else big_Over_h0 k ((i:Int) - 1) a b (Vector.setIfInBounds q (i / 64) (List.getD (Vector.toList q) (i / 64) 0 ||| zaq 1 (i % 64))) (subV Y b)))→Ev F (ovQ a b,ovR a b,ovE b):=by
   intro x hx Y hY F hF
   obtain ⟨r',h1,h2⟩:=znN a b r i hB hr (fun v=>fun k=>big_Over_h0 k ((i:Int) - 1) a b (Vector.setIfInBounds q (i / 64) (List.getD (Vector.toList q) (i / 64) 0 ||| zaq 1 (i % 64))) v) (fun v=>fun k=>big_Over_h0 k ((i:Int) - 1) a b q v) x hx Y hY
   cases hb:(uV a / uV b).testBit i with
   | true =>
    rw[hb,if_pos rfl]at h2
    refine Ev.step (fun k=>?_) (hT r' h1 hb)
    rw[hF k,←congrFun h2 k]
    cases eqb (Nat.testBit (uV r) 255) false<;>cases subB Y b<;>rfl
   | false =>
    rw[hb,if_neg (by decide)]at h2
    refine Ev.step (fun k=>?_) (hU r' h1 hb)
    rw[hF k,←congrFun h2 k]
    cases eqb (Nat.testBit (uV r) 255) false<;>cases subB Y b<;>rfl
  cases hx:(uV a).testBit i with
  | true =>
   refine key true hx.symm (uW (2*uV r+1)) rfl _ fun k=>?_
   rw[big_Over_h0.eq_2,zan (by omega),if_pos (by omega),Int.toNat_natCast,hx,cond_true,zJy,ed,zgo (a:=i / 64) (by omega),if_pos (by omega),zl3 i hi,Int.toNat_natCast,zaj (by omega) (by omega)]
  | false =>
   refine key false hx.symm (uW (uV r*2 ^ 1)) (by rw[Bool.toNat_false,Nat.add_zero,Nat.mul_comm]) _ fun k=>?_
   rw[big_Over_h0.eq_2,zan (by omega),if_pos (by omega),Int.toNat_natCast,hx,cond_false,ed,zgo (a:=i / 64) (by omega),if_pos (by omega),zl3 i hi,Int.toNat_natCast,zaj (by omega) (by omega)]
 ·rintro ⟨q,r⟩ ⟨hq,hr⟩
  refine Ev.done fun k=>?_
  simp only at hq hr
  show big_Over_h0 (k+1) _ a b q r=_
  rw[big_Over_h0.eq_2,zau (by omega)]
  rw[zvx,zAI,zDN]
  refine congrArg some (Prod.ext ?_ (Prod.ext ?_ ?_))
  ·refine zim fun j hj=>?_
   show (uV q).testBit j=(uV (uW _)).testBit j
   rw[hq j hj,zmh,decide_eq_true hj,decide_eq_true (Nat.zero_le _)]
  ·show r=uW _
   rw[if_neg c0]
   apply zpT
   rw[hr,zfy,Nat.pow_zero,Nat.div_one]
   have:=zgl b
   have:=Nat.mod_lt (uV a) hB
   omega
  ·show (0:Int)=if uV b=0 then 2 else 0
   rw[if_neg c0]
 ·refine ⟨fun j hj=>?_,?_⟩
  ·show (uV (Vector.replicate 4 0)).testBit j=_
   rw[zr3,Nat.zero_testBit]
   by_cases c:lenN (uV a)≤j
   ·have h1:uV a / uV b≤uV a:=Nat.div_le_self _ _
    have h2:2 ^ lenN (uV a)≤2 ^ j:=Nat.pow_le_pow_right (by decide) c
    rw[Nat.testBit_lt_two_pow (x:=uV a / uV b) (i:=j) (by omega),Bool.and_false]
   ·rw[decide_eq_false c,Bool.false_and]
  ·show uV (Vector.replicate 4 0)=_
   rw[zr3,Nat.div_eq_of_lt hA,Nat.zero_mod]
end
end Go.Proofs.YtnolgfdjcipmmaaDoor.M
namespace Go.Proofs.YtnolgfdjcipmmaaDoor.M
open Go
noncomputable section
def big_Less (a:Vector UInt64 4) (b:Vector UInt64 4):Bool :=
 (subB a b)
theorem zwD (a b:Vector UInt64 4):big_Less a b=subB a b:=rfl
end
end Go.Proofs.YtnolgfdjcipmmaaDoor.M
namespace Go.Proofs.YtnolgfdjcipmmaaDoor.M
open Go
noncomputable section
def big_Mul_h0:Nat→UInt64→UInt64→Int→(Vector UInt64 4)→(Vector UInt64 4)→Option (Vector UInt64 4 × UInt64)
 | 0,_,_,_,_,_=>none
 | k+1,n,carry,t11,a,t4=>bif decide (t11 < (4:Int)) then(if((0:Int)≤t11)∧(t11 < (4:Int)) then
    big_Mul_h0 k n ((zyb (List.getD (Vector.toList a) (Int.toNat t11) (0:UInt64)) n)+(zhY (zq8 (List.getD (Vector.toList a) (Int.toNat t11) (0:UInt64)) n) carry (0:UInt64))) (w64 (t11+(1:Int))) (Vector.setIfInBounds a (Int.toNat t11) (((zq8 (List.getD (Vector.toList a) (Int.toNat t11) (0:UInt64)) n)+carry)+(0:UInt64))) t4
   else none)
   else(some (a,carry))
def big_Mul (k:Nat) (a:Vector UInt64 4) (n:UInt64):Option (Vector UInt64 4 × UInt64) :=
 big_Mul_h0 k n (0:UInt64) (0:Int) a (Vector.replicate 4 (0:UInt64))
theorem zIj {A n W p:Nat} (hp:0 < p) (hW:0 < W):(A % (p*W))*n / (p*W)=((A % p)*n / p+A / p % W*n) / W∧A*n / p % W=((A % p)*n / p+A / p % W*n) % W:=by
 have e1:A % (p*W)=A % p+p*(A / p % W):=Nat.mod_mul
 have e2:(A % (p*W))*n=p*(A / p % W*n)+(A % p)*n:=by rw[e1]; grind
 have e3:(A % (p*W))*n / p=(A % p)*n / p+A / p % W*n:=by rw[e2,Nat.mul_add_div hp,Nat.add_comm]
 constructor
 ·rw[←Nat.div_div_eq_div_mul,e3]
 ·have h:=Nat.div_add_mod A (p*W)
  have e4:A*n=p*(W*(A / (p*W)*n))+(A % (p*W))*n:=by
   have:A*n=(p*W*(A / (p*W))+A % (p*W))*n:=by rw[h]
   rw[this]; grind
  rw[e4,Nat.mul_add_div hp,e3,Nat.mul_add_mod]
theorem zAT (a:Vector UInt64 4) (n:UInt64):∃ k,big_Mul k a n=some (uW (uV a*n.toNat),mulC a n):=by
 show Ev (fun k=>big_Mul k a n) _
 refine Ev.same (fun k=>big_Mul.eq_1 k a n) ?_
 have hnl:=n.toNat_lt
 refine Ev.inv (H:=fun k i (s:Vector UInt64 4 × UInt64)=>big_Mul_h0 k n s.2 i s.1 (Vector.replicate 4 0)) (n:=4)
  (fun i s=>(∀ j,j < 4→gW s.1 j=if j < i then uV a*n.toNat / 18446744073709551616 ^ j % 18446744073709551616 else gW a j)∧s.2.toNat=(uV a % 18446744073709551616 ^ i)*n.toNat / 18446744073709551616 ^ i) ?_ ?_ 4 0 (a,0) rfl ?_
 ·rintro i ⟨q,r⟩ hi ⟨hq,hr⟩ next
  simp only at hq hr next
  have hg:gW q i=gW a i:=by rw[hq i hi,if_neg (by omega)]
  have hgl:=zje a i
  have hrl:=r.toNat_lt
  have two:=zIj (A:=uV a) (n:=n.toNat) (W:=18446744073709551616) (Nat.pow_pos (n:=i) (show 0 < 18446744073709551616 by decide)) (by decide)
  rw[←hr,←zIo a i hi,←Nat.pow_succ]at two
  have hb:gW a i*n.toNat≤18446744073709551615*18446744073709551615:=Nat.mul_le_mul (by omega) (by omega)
  have hl:(zq8 (List.getD (Vector.toList q) i 0) n).toNat=gW a i*n.toNat % 18446744073709551616:=by
   unfold zq8
   rw[za7,UInt64.toNat_mul,ze9,hg]
  have hh:(zyb (List.getD (Vector.toList q) i 0) n).toNat=gW a i*n.toNat / 18446744073709551616:=by
   unfold zyb
   rw[za7,UInt64.toNat_ofNat',ze9,hg]
   omega
  have wv:∀ (L Hh:UInt64),L.toNat=gW a i*n.toNat % 18446744073709551616→Hh.toNat=gW a i*n.toNat / 18446744073709551616→(L+r+0).toNat=(r.toNat+gW a i*n.toNat) % 18446744073709551616∧(Hh+zhY L r 0).toNat=(r.toNat+gW a i*n.toNat) / 18446744073709551616:=by
   intro L Hh hl hh
   have hll:=L.toNat_lt
   have ha:(zhY L r 0).toNat=(L.toNat+r.toNat) / 18446744073709551616:=by
    unfold zhY
    rw[UInt64.toNat_ofNat',show (0:UInt64).toNat=0 from rfl]
    omega
   generalize gW a i*n.toNat=P at *
   constructor
   ·rw[UInt64.toNat_add,UInt64.toNat_add,show (0:UInt64).toNat=0 from rfl]
    omega
   ·rw[UInt64.toNat_add,ha]
    omega
  obtain ⟨w1,w2⟩:=wv _ _ hl hh
  refine Ev.step (fun k=>?_) (next (Vector.setIfInBounds q i (zq8 (List.getD (Vector.toList q) i 0) n+r+0),zyb (List.getD (Vector.toList q) i 0) n+zhY (zq8 (List.getD (Vector.toList q) i 0) n) r 0) ⟨fun j hj=>?_,?_⟩)
  ·show big_Mul_h0 (k+1) n r _ q _=_
   rw[big_Mul_h0.eq_2,zan (by omega),if_pos (by omega),Int.toNat_natCast,zaj (by omega) (by omega)]
  ·show gW (Vector.setIfInBounds q i _) j=_
   rw[znR _ _ _ _ hi]
   by_cases e:i=j
   ·subst e
    rw[if_pos rfl,if_pos (by omega),two.2,w1]
   ·rw[if_neg e,hq j hj]
    by_cases c:j < i
    ·rw[if_pos c,if_pos (by omega)]
    ·rw[if_neg c,if_neg (by omega)]
  ·show (zyb (List.getD (Vector.toList q) i 0) n+zhY (zq8 (List.getD (Vector.toList q) i 0) n) r 0).toNat=_
   rw[w2,two.1]
 ·rintro ⟨q,r⟩ ⟨hq,hr⟩
  simp only at hq hr
  refine Ev.done fun k=>?_
  show big_Mul_h0 (k+1) n r _ q _=_
  rw[big_Mul_h0.eq_2,zau (by omega)]
  rw[zF4]
  refine congrArg some (Prod.ext ?_ ?_)
  ·refine zEz fun j hj=>?_
   show gW q j=gW (uW _) j
   rw[hq j hj,if_pos hj,zii _ _ hj]
  ·show r=UInt64.ofNat _
   have:uV a % 18446744073709551616 ^ 4=uV a:=Nat.mod_eq_of_lt (zgl a)
   rw[this]at hr
   rw[show 115792089237316195423570985008687907853269984665640564039457584007913129639936=18446744073709551616 ^ 4 by decide,←hr,UInt64.ofNat_toNat]
 ·refine ⟨fun j hj=>?_,?_⟩
  ·rw[if_neg (by omega)]
  ·show (0:UInt64).toNat=_
   rw[Nat.pow_zero,Nat.mod_one,Nat.zero_mul]
   rfl
end
end Go.Proofs.YtnolgfdjcipmmaaDoor.M
namespace Go.Proofs.YtnolgfdjcipmmaaDoor.M
open Go
noncomputable section
def big_Div_h0:Nat→UInt64→UInt64→Int→(Vector UInt64 4)→(Vector UInt64 4)→Option (Vector UInt64 4 × UInt64 × Int)
 | 0,_,_,_,_,_=>none
 | k+1,n,left,i,a,t4=>bif decide ((0:Int)≤i) then(if((0:Int)≤i)∧(i < (4:Int)) then
    if(UInt64.toNat left) < (UInt64.toNat n) then
     big_Div_h0 k n (UInt64.ofNat ((((UInt64.toNat left)*(18446744073709551616:Nat))+(UInt64.toNat (List.getD (Vector.toList a) (Int.toNat i) (0:UInt64)))) % (UInt64.toNat n))) (w64 (i - (1:Int))) (Vector.setIfInBounds a (Int.toNat i) (UInt64.ofNat ((((UInt64.toNat left)*(18446744073709551616:Nat))+(UInt64.toNat (List.getD (Vector.toList a) (Int.toNat i) (0:UInt64)))) / (UInt64.toNat n)))) t4
    else none
   else none)
   else(some (a,left,(0:Int)))
def big_Div (k:Nat) (a:Vector UInt64 4) (n:UInt64):Option (Vector UInt64 4 × UInt64 × Int) :=
 bif decide (n=(0:UInt64)) then(some ((Vector.replicate 4 (0:UInt64)),(0:UInt64),(2:Int)))
  else(big_Div_h0 k n (0:UInt64) (3:Int) a (Vector.replicate 4 (0:UInt64)))
theorem zJj {Y:Nat} (hY:0 < Y) (A c:Nat):(A*18446744073709551616+c) / Y=A / Y*18446744073709551616+(A % Y*18446744073709551616+c) / Y∧(A*18446744073709551616+c) % Y=(A % Y*18446744073709551616+c) % Y:=by
 have h:=Nat.div_add_mod A Y
 have e:A*18446744073709551616+c=Y*(A / Y*18446744073709551616)+(A % Y*18446744073709551616+c):=by
  have:A*18446744073709551616=(Y*(A / Y)+A % Y)*18446744073709551616:=by rw[h]
  rw[this]
  grind
 constructor
 ·rw[e,Nat.mul_add_div hY]
 ·rw[e,Nat.mul_add_mod]
theorem zyT (a:Vector UInt64 4) (n:UInt64):∃ k,big_Div k a n=some (uW (uV a / n.toNat),divR a n,divE n):=by
 show Ev (fun k=>big_Div k a n) _
 refine Ev.same (fun k=>big_Div.eq_1 k a n) ?_
 by_cases c0:n=0
 ·refine Ev.done0 fun k=>?_
  rw[zan c0,c0]
  rw[zCN,zGT]
  rw[show (0:UInt64).toNat=0 from rfl,if_pos rfl,if_pos rfl,Nat.div_zero]
  rfl
 have hn0:n.toNat≠0:=fun e=>c0 (UInt64.toNat_inj.1 e)
 have hn:0 < n.toNat:=by omega
 have hnl:=n.toNat_lt
 refine Ev.same (fun k=>zau c0) ?_
 refine Ev.dwn (H:=fun k i (s:Vector UInt64 4 × UInt64)=>big_Div_h0 k n s.2 i s.1 (Vector.replicate 4 0)) (n:=4)
  (fun i s=>(∀ j,j < 4→gW s.1 j=if i≤j then uV a / n.toNat / 18446744073709551616 ^ j % 18446744073709551616 else gW a j)∧s.2.toNat=uV a / 18446744073709551616 ^ i % n.toNat) ?_ ?_ 4 (a,0) (Nat.le_refl _) ?_
 ·rintro i ⟨q,r⟩ hi ⟨hq,hr⟩ next
  simp only at hq hr next
  have hrl:r.toNat < n.toNat:=by rw[hr]; exact Nat.mod_lt _ hn
  have hg:gW q i=gW a i:=by rw[hq i hi,if_neg (by omega)]
  have hgl:=zje a i
  have hs:uV a / 18446744073709551616 ^ i=uV a / 18446744073709551616 ^ (i+1)*18446744073709551616+gW a i:=by
   rw[zIo a i hi,Nat.pow_succ,←Nat.div_div_eq_div_mul]
   exact (Nat.div_add_mod' _ _).symm
  have two:=zJj hn (uV a / 18446744073709551616 ^ (i+1)) (gW a i)
  rw[←hr,←hs]at two
  have dl:(r.toNat*18446744073709551616+gW a i) / n.toNat < 18446744073709551616:=by
   rw[Nat.div_lt_iff_lt_mul hn]
   have:(r.toNat+1)*18446744073709551616≤n.toNat*18446744073709551616:=Nat.mul_le_mul_right _ hrl
   omega
  have ml:=Nat.mod_lt (r.toNat*18446744073709551616+gW a i) hn
  refine Ev.step (fun k=>?_) (next (Vector.setIfInBounds q i (UInt64.ofNat ((r.toNat*18446744073709551616+gW a i) / n.toNat)),UInt64.ofNat ((r.toNat*18446744073709551616+gW a i) % n.toNat)) ⟨fun j hj=>?_,?_⟩)
  ·show big_Div_h0 (k+1) n r _ q _=_
   rw[big_Div_h0.eq_2,zan (by omega),if_pos (by omega),if_pos hrl,Int.toNat_natCast,ze9,hg,zaj (by omega) (by omega)]
  ·show gW (Vector.setIfInBounds q i _) j=_
   rw[znR _ _ _ _ hi]
   by_cases e:i=j
   ·subst e
    rw[if_pos rfl,if_pos (Nat.le_refl _),UInt64.toNat_ofNat',Nat.mod_eq_of_lt (by omega),Nat.div_div_eq_div_mul,Nat.mul_comm n.toNat,←Nat.div_div_eq_div_mul,two.1,Nat.mul_comm (_ / _),Nat.mul_add_mod,Nat.mod_eq_of_lt dl]
   ·rw[if_neg e,hq j hj]
    by_cases c:i+1≤j
    ·rw[if_pos c,if_pos (by omega)]
    ·rw[if_neg c,if_neg (by omega)]
  ·show (UInt64.ofNat _).toNat=_
   rw[UInt64.toNat_ofNat',two.2,Nat.mod_eq_of_lt (by omega)]
 ·rintro ⟨q,r⟩ ⟨hq,hr⟩
  simp only at hq hr
  refine Ev.done fun k=>?_
  show big_Div_h0 (k+1) n r _ q _=_
  rw[big_Div_h0.eq_2,zau (by omega)]
  rw[zCN,zGT]
  refine congrArg some (Prod.ext ?_ (Prod.ext ?_ ?_))
  ·refine zEz fun j hj=>?_
   show gW q j=gW (uW _) j
   rw[hq j hj,if_pos (Nat.zero_le _),zii _ _ hj]
  ·show r=if n.toNat=0 then 0 else _
   rw[if_neg hn0]
   rw[Nat.pow_zero,Nat.div_one]at hr
   rw[←hr,UInt64.ofNat_toNat]
  ·show (0:Int)=if n.toNat=0 then 2 else 0
   rw[if_neg hn0]
 ·refine ⟨fun j hj=>?_,?_⟩
  ·rw[if_neg (by omega)]
  ·show (0:UInt64).toNat=_
   rw[Nat.div_eq_of_lt (zgl a),Nat.zero_mod]
   rfl
end
end Go.Proofs.YtnolgfdjcipmmaaDoor.M
namespace Go.Proofs.YtnolgfdjcipmmaaDoor.M
open Go
noncomputable section
set_option maxRecDepth 100000
set_option maxHeartbeats 0
noncomputable def zw9:Tbl:=[]
noncomputable def zC7:CfgW:=mkC Tryd.prog theG zw9 5 0 false
def zrT:Nat→List Nat:=fun i=>[]
noncomputable abbrev zyj:Code:=Tryd.f28.body.getD .skip
noncomputable abbrev zDk:List ResultVar:=Tryd.f28.results.toList
def zsk:List Nat:=[]
def ziA (r:Vector UInt64 4):CallOut:=⟨.pv (.arr .u64 4 r),[],true,[]⟩
theorem zH7 (n:UInt64) (Q:CallOut→Prop):zac zC7 zrT zDk zsk zyj [.pv (.sc .u64 n)] [] Q =
  (Q (ziA (Vector.setIfInBounds (Vector.replicate 4 (0:UInt64)) (0:Nat) n))):=by kernel_rfl
theorem zHN (n:UInt64) {Q:CallOut→Prop} (h:Q (ziA (big_Of n))):zac zC7 zrT zDk zsk zyj [.pv (.sc .u64 n)] [] Q :=
 Eq.mpr (zH7 n Q) (have h:=Eq.mp (congrArg (fun r=>Q (ziA r)) (big_Of.eq_1 n)) h; h)
def ziQ:Ans
 | [.pv (.sc .u64 n)],[]=>some (none,ziA (uW n.toNat))
 | _,_=>none
theorem zEr:TblOK Tryd.prog theG zw9:=.nil
theorem zoC:FnOK Tryd.prog theG 28 (unW ziQ):=by
 refine FnOK.ofC (T:=zw9) (nt:=5) (np:=0) (mv:=[]) (nf:=false) (hs:=zsk) (fn:=Tryd.f28) (body:=zyj) zEr (by kernel_rfl) (by kernel_rfl) (by kernel_rfl) (by kernel_rfl) (c:=ziQ) (lv:=zrT) ?_
 intro xs mem p out h hp
 unfold ziQ at h
 split at h
 ·cases h
  exact zHN _ (congrArg ziA (zCq _))
 ·cases h
end
end Go.Proofs.YtnolgfdjcipmmaaDoor.M
namespace Go.Proofs.YtnolgfdjcipmmaaDoor.M
open Go
noncomputable section
set_option maxRecDepth 100000
set_option maxHeartbeats 0
noncomputable def znC:Tbl:=[]
noncomputable def zbH:CfgW:=mkC Tryd.prog theG znC 59 0 false
def zcA:Nat→List Nat:=fun i=>bif Nat.beq i 1 then [1,2,4,5,6]else []
noncomputable abbrev zdm:Code:=Tryd.f62.body.getD .skip
noncomputable abbrev zdV:List ResultVar:=Tryd.f62.results.toList
def zcB:List Nat:=[]
def zcc (r:Vector UInt64 4):CallOut:=⟨.pv (.arr .u64 4 r),[],true,[]⟩
def zeG (n:Int) (i:Int) (a:Vector UInt64 4) (t4:Vector UInt64 4) (x_:Vector UInt64 4):St:=⟨[(1,.pv (.sc .i n)),(2,.p 60000 []),(4,.p 60001 []),(5,.p 60002 []),(6,.pv (.sc .i i))],[(60000,.box (.pv (.arr .u64 4 a))),(60001,.box (.pv (.arr .u64 4 t4))),(60002,.box (.pv (.arr .u64 4 x_)))]⟩
theorem zAt (n:Int) (i:Int) (a:Vector UInt64 4) (t4:Vector UInt64 4) (x_:Vector UInt64 4) (Q:CallOut→Prop):zas zbH zcA [true,true,true,false,true,false] zdm (zeG n i a t4 x_) (fnK zbH zdV zcB Q) =
 (let s0:=(Vector.setIfInBounds x_ (Int.toNat i) (zaa (List.getD (Vector.toList a) (Int.toNat (w64 (i+(w64 (Int.tdiv n (64:Int)))))) (0:UInt64)) (UInt64.toNat ((UInt64.ofInt n) % (64:UInt64)))));let s1:=(zah zbH zcA [true,true,true,false,true,false] zdm (zeG n (w64 (i+(1:Int))) a t4  s0 ) (fnK zbH zdV zcB Q));(((64:Int)≠(0:Int))∧(zaf (decide ((w64 (i+(w64 (Int.tdiv n (64:Int))))) < (4:Int))) (((64:Int)≠(0:Int))∧((((0:Int)≤(w64 (i+(w64 (Int.tdiv n (64:Int))))))∧((w64 (i+(w64 (Int.tdiv n (64:Int))))) < (4:Int)))∧(((64:UInt64)≠(0:UInt64))∧((((0:Int)≤i)∧(i < (4:Int)))∧(zaf (eqb (decide ((w64 ((w64 (i+(w64 (Int.tdiv n (64:Int)))))+(1:Int))) < (4:Int))) true) (((64:Int)≠(0:Int))∧(zaf (bif true then(!(decide ((Int.tmod n (64:Int))=(0:Int))))else false) ((((0:Int)≤i)∧(i < (4:Int)))∧((((0:Int)≤(w64 ((w64 (i+(w64 (Int.tdiv n (64:Int)))))+(1:Int))))∧((w64 ((w64 (i+(w64 (Int.tdiv n (64:Int)))))+(1:Int))) < (4:Int)))∧(((64:UInt64)≠(0:UInt64))∧((((0:Int)≤i)∧(i < (4:Int)))∧(zah zbH zcA [true,true,true,false,true,false] zdm (zeG n (w64 (i+(1:Int))) a t4 (Vector.setIfInBounds  s0  (Int.toNat i) ((List.getD (Vector.toList  s0 ) (Int.toNat i) (0:UInt64)) ||| (zaq (List.getD (Vector.toList a) (Int.toNat (w64 ((w64 (i+(w64 (Int.tdiv n (64:Int)))))+(1:Int)))) (0:UInt64)) (UInt64.toNat ((64:UInt64) - ((UInt64.ofInt n) % (64:UInt64)))))))) (fnK zbH zdV zcB Q))))))  s1 ))  s1 ))))) (Q (zcc x_))))):=by kernel_rfl
theorem zhK {r:Vector UInt64 4} {Q:CallOut→Prop} (hQ:Q (zcc r)):∀ k:Nat,(∀ (n:Int) (i:Int) (a:Vector UInt64 4) (t4:Vector UInt64 4) (x_:Vector UInt64 4),big_Right_h1 k n i a t4 x_=some r→zah zbH zcA [true,true,true,false,true,false] zdm (zeG n i a t4 x_) (fnK zbH zdV zcB Q))
 | 0=>fun _ _ _ _ _ h=>zb9 h
 | k+1=>fun n i a t4 x_ h=>zal (Eq.mpr (zAt n i a t4 x_ Q) (have h:=(big_Right_h1.eq_2 n i a t4 x_ k).symm.trans h; ⟨by decide +kernel,zab h (fun h=>⟨by decide +kernel,zad h fun hc0 h=>⟨by decide +kernel,zad h fun hc1 h=>zab h (fun h=>⟨by decide +kernel,zab h (fun h=>⟨hc1,zad h fun hc2 h=>⟨by decide +kernel,⟨hc1,(zhK hQ k) _ _ _ _ _ h⟩⟩⟩) (fun h=>(zhK hQ k) _ _ _ _ _ h)⟩) (fun h=>(zhK hQ k) _ _ _ _ _ h)⟩⟩) (fun h=>zag (Q:=Q) (e:=zcc) h hQ)⟩))
theorem zBR (a:Vector UInt64 4) (n:Int) (Q:CallOut→Prop):zac zbH zcA zdV zcB zdm [.pv (.arr .u64 4 a),.pv (.sc .i n)] [] Q =
  (zaf (decide (n≤(0:Int))) (Q (zcc a)) (zaf (decide ((256:Int)≤n)) (Q (zcc (Vector.replicate 4 (0:UInt64)))) (zah zbH zcA [true,true,true,false,true,false] zdm (zeG n (0:Int) a (Vector.replicate 4 (0:UInt64)) (Vector.replicate 4 (0:UInt64))) (fnK zbH zdV zcB Q)))):=by kernel_rfl
theorem zC4 {k:Nat} (a:Vector UInt64 4) (n:Int) {r} {Q:CallOut→Prop} (h:big_Right k a n=some r) (hQ:Q (zcc r)):zac zbH zcA zdV zcB zdm [.pv (.arr .u64 4 a),.pv (.sc .i n)] [] Q :=
 Eq.mpr (zBR a n Q) (have h:=(big_Right.eq_1 k a n).symm.trans h; zab h (fun h=>zag (Q:=Q) (e:=zcc) h hQ) (fun h=>zab h (fun h=>zag (Q:=Q) (e:=zcc) h hQ) (fun h=>(zhK hQ _) _ _ _ _ _ h)))
def zhm:Ans
 | [.pv (.arr .u64 4 a),.pv (.sc .i n)],[]=>some (some (-9223372036854775808≤n∧n < 9223372036854775808),zcc (uW (uV a / 2 ^ n.toNat)))
 | _,_=>none
theorem zxy:TblOK Tryd.prog theG znC:=.nil
theorem zqm:FnOK Tryd.prog theG 62 (unW zhm):=by
 refine FnOK.ofC (T:=znC) (nt:=59) (np:=0) (mv:=[]) (nf:=false) (hs:=zcB) (fn:=Tryd.f62) (body:=zdm) zxy (by kernel_rfl) (by kernel_rfl) (by kernel_rfl) (by kernel_rfl) (c:=zhm) (lv:=zcA) ?_
 intro xs mem p out h hp
 unfold zhm at h
 split at h
 ·cases h
  obtain ⟨k,hk⟩:=ztX _ _ hp
  exact zC4 _ _ hk rfl
 ·cases h
end
end Go.Proofs.YtnolgfdjcipmmaaDoor.M
namespace Go.Proofs.YtnolgfdjcipmmaaDoor.M
open Go
noncomputable section
set_option maxRecDepth 100000
set_option maxHeartbeats 0
noncomputable def ztw:Tbl:=[(79,[],zfZ)]
noncomputable def zed:CfgW:=mkC Tryd.prog theG ztw 19 0 false
def zfl:Nat→List Nat:=fun i=>bif Nat.beq i 0 then [1,3]else []
noncomputable abbrev zg4:Code:=Tryd.f63.body.getD .skip
noncomputable abbrev ziu:List ResultVar:=Tryd.f63.results.toList
def zfm:List Nat:=[]
def zes (r:Int):CallOut:=⟨.pv (.sc .i r),[],true,[]⟩
def zlu (i:Int) (a:Vector UInt64 4):St:=⟨[(1,.p 60000 []),(3,.pv (.sc .i i))],[(60000,.box (.pv (.arr .u64 4 a)))]⟩
theorem zEU (i:Int) (a:Vector UInt64 4) (Q:CallOut→Prop):zas zed zfl [true,false,true,false] zg4 (zlu i a) (fnK zed ziu zfm Q) =
  (zaf (decide ((0:Int)≤i)) ((((0:Int)≤i)∧(i < (4:Int)))∧(zaf (!(decide ((List.getD (Vector.toList a) (Int.toNat i) (0:UInt64))=(0:UInt64)))) ((((0:Int)≤i)∧(i < (4:Int)))∧(Q (zes (w64 ((w64 (i*(64:Int)))+(((lenN (UInt64.toNat (List.getD (Vector.toList a) (Int.toNat i) (0:UInt64)))):Nat):Int)))))) (zah zed zfl [true,false,true,false] zg4 (zlu (w64 (i - (1:Int))) a) (fnK zed ziu zfm Q)))) (Q (zes (0:Int)))):=by kernel_rfl
theorem zve {r:Int} {Q:CallOut→Prop} (hQ:Q (zes r)):∀ k:Nat,(∀ (i:Int) (a:Vector UInt64 4),big_Len_h0 k i a=some r→zah zed zfl [true,false,true,false] zg4 (zlu i a) (fnK zed ziu zfm Q))
 | 0=>fun _ _ h=>zb9 h
 | k+1=>fun i a h=>zal (Eq.mpr (zEU i a Q) (have h:=(big_Len_h0.eq_2 i a k).symm.trans h; zab h (fun h=>zad h fun hc0 h=>zab h (fun h=>⟨hc0,zag (Q:=Q) (e:=zes) h hQ⟩) (fun h=>(zve hQ k) _ _ h)) (fun h=>zag (Q:=Q) (e:=zes) h hQ)))
theorem zGf (a:Vector UInt64 4) (Q:CallOut→Prop):zac zed zfl ziu zfm zg4 [.pv (.arr .u64 4 a)] [] Q =
  (zah zed zfl [true,false,true,false] zg4 (zlu (3:Int) a) (fnK zed ziu zfm Q)):=by kernel_rfl
theorem zG5 {k:Nat} (a:Vector UInt64 4) {r} {Q:CallOut→Prop} (h:big_Len k a=some r) (hQ:Q (zes r)):zac zed zfl ziu zfm zg4 [.pv (.arr .u64 4 a)] [] Q :=
 Eq.mpr (zGf a Q) (have h:=(big_Len.eq_1 k a).symm.trans h; (zve hQ _) _ _ h)
def ziv:Ans
 | [.pv (.arr .u64 4 a)],[]=>some (none,zes ((((lenN (uV a)):Nat):Int)))
 | _,_=>none
theorem zCo:TblOK Tryd.prog theG ztw:=.cons ⟨by kernel_rfl,zod⟩ (.nil)
theorem zpu:FnOK Tryd.prog theG 63 (unW ziv):=by
 refine FnOK.ofC (T:=ztw) (nt:=19) (np:=0) (mv:=[]) (nf:=false) (hs:=zfm) (fn:=Tryd.f63) (body:=zg4) zCo (by kernel_rfl) (by kernel_rfl) (by kernel_rfl) (by kernel_rfl) (c:=ziv) (lv:=zfl) ?_
 intro xs mem p out h hp
 unfold ziv at h
 split at h
 ·cases h
  obtain ⟨k,hk⟩:=zzH _
  exact zG5 _ hk rfl
 ·cases h
end
end Go.Proofs.YtnolgfdjcipmmaaDoor.M
namespace Go.Proofs.YtnolgfdjcipmmaaDoor.M
open Go
noncomputable section
set_option maxRecDepth 100000
set_option maxHeartbeats 0
noncomputable def zpF:Tbl:=[]
noncomputable def zb3:CfgW:=mkC Tryd.prog theG zpF 57 0 false
def zda:Nat→List Nat:=fun i=>bif Nat.beq i 1 then [1,2,4,5,6]else []
noncomputable abbrev zd3:Code:=Tryd.f64.body.getD .skip
noncomputable abbrev zeH:List ResultVar:=Tryd.f64.results.toList
def zdl:List Nat:=[]
def zcE (r:Vector UInt64 4):CallOut:=⟨.pv (.arr .u64 4 r),[],true,[]⟩
def zfe (n:Int) (i:Int) (a:Vector UInt64 4) (t4:Vector UInt64 4) (x_:Vector UInt64 4):St:=⟨[(1,.pv (.sc .i n)),(2,.p 60000 []),(4,.p 60001 []),(5,.p 60002 []),(6,.pv (.sc .i i))],[(60000,.box (.pv (.arr .u64 4 a))),(60001,.box (.pv (.arr .u64 4 t4))),(60002,.box (.pv (.arr .u64 4 x_)))]⟩
theorem zBw (n:Int) (i:Int) (a:Vector UInt64 4) (t4:Vector UInt64 4) (x_:Vector UInt64 4) (Q:CallOut→Prop):zas zb3 zda [true,true,true,false,true,false] zd3 (zfe n i a t4 x_) (fnK zb3 zeH zdl Q) =
 (let s0:=(Vector.setIfInBounds x_ (Int.toNat i) (zaq (List.getD (Vector.toList a) (Int.toNat (w64 (i - (w64 (Int.tdiv n (64:Int)))))) (0:UInt64)) (UInt64.toNat ((UInt64.ofInt n) % (64:UInt64)))));let s1:=(zah zb3 zda [true,true,true,false,true,false] zd3 (zfe n (w64 (i - (1:Int))) a t4  s0 ) (fnK zb3 zeH zdl Q));(((64:Int)≠(0:Int))∧(zaf (decide ((w64 (Int.tdiv n (64:Int)))≤i)) (((64:Int)≠(0:Int))∧((((0:Int)≤(w64 (i - (w64 (Int.tdiv n (64:Int))))))∧((w64 (i - (w64 (Int.tdiv n (64:Int))))) < (4:Int)))∧(((64:UInt64)≠(0:UInt64))∧((((0:Int)≤i)∧(i < (4:Int)))∧(zaf (eqb (decide ((0:Int) < (w64 (i - (w64 (Int.tdiv n (64:Int))))))) true) (((64:Int)≠(0:Int))∧(zaf (bif true then(!(decide ((Int.tmod n (64:Int))=(0:Int))))else false) ((((0:Int)≤i)∧(i < (4:Int)))∧((((0:Int)≤(w64 ((w64 (i - (w64 (Int.tdiv n (64:Int))))) - (1:Int))))∧((w64 ((w64 (i - (w64 (Int.tdiv n (64:Int))))) - (1:Int))) < (4:Int)))∧(((64:UInt64)≠(0:UInt64))∧((((0:Int)≤i)∧(i < (4:Int)))∧(zah zb3 zda [true,true,true,false,true,false] zd3 (zfe n (w64 (i - (1:Int))) a t4 (Vector.setIfInBounds  s0  (Int.toNat i) ((List.getD (Vector.toList  s0 ) (Int.toNat i) (0:UInt64)) ||| (zaa (List.getD (Vector.toList a) (Int.toNat (w64 ((w64 (i - (w64 (Int.tdiv n (64:Int))))) - (1:Int)))) (0:UInt64)) (UInt64.toNat ((64:UInt64) - ((UInt64.ofInt n) % (64:UInt64)))))))) (fnK zb3 zeH zdl Q))))))  s1 ))  s1 ))))) (Q (zcE x_))))):=by kernel_rfl
theorem zju {r:Vector UInt64 4} {Q:CallOut→Prop} (hQ:Q (zcE r)):∀ k:Nat,(∀ (n:Int) (i:Int) (a:Vector UInt64 4) (t4:Vector UInt64 4) (x_:Vector UInt64 4),big_Left_h1 k n i a t4 x_=some r→zah zb3 zda [true,true,true,false,true,false] zd3 (zfe n i a t4 x_) (fnK zb3 zeH zdl Q))
 | 0=>fun _ _ _ _ _ h=>zb9 h
 | k+1=>fun n i a t4 x_ h=>zal (Eq.mpr (zBw n i a t4 x_ Q) (have h:=(big_Left_h1.eq_2 n i a t4 x_ k).symm.trans h; ⟨by decide +kernel,zab h (fun h=>⟨by decide +kernel,zad h fun hc0 h=>⟨by decide +kernel,zad h fun hc1 h=>zab h (fun h=>⟨by decide +kernel,zab h (fun h=>⟨hc1,zad h fun hc2 h=>⟨by decide +kernel,⟨hc1,(zju hQ k) _ _ _ _ _ h⟩⟩⟩) (fun h=>(zju hQ k) _ _ _ _ _ h)⟩) (fun h=>(zju hQ k) _ _ _ _ _ h)⟩⟩) (fun h=>zag (Q:=Q) (e:=zcE) h hQ)⟩))
theorem zEf (a:Vector UInt64 4) (n:Int) (Q:CallOut→Prop):zac zb3 zda zeH zdl zd3 [.pv (.arr .u64 4 a),.pv (.sc .i n)] [] Q =
  (zaf (decide (n≤(0:Int))) (Q (zcE a)) (zaf (decide ((256:Int)≤n)) (Q (zcE (Vector.replicate 4 (0:UInt64)))) (zah zb3 zda [true,true,true,false,true,false] zd3 (zfe n (3:Int) a (Vector.replicate 4 (0:UInt64)) (Vector.replicate 4 (0:UInt64))) (fnK zb3 zeH zdl Q)))):=by kernel_rfl
theorem zEt {k:Nat} (a:Vector UInt64 4) (n:Int) {r} {Q:CallOut→Prop} (h:big_Left k a n=some r) (hQ:Q (zcE r)):zac zb3 zda zeH zdl zd3 [.pv (.arr .u64 4 a),.pv (.sc .i n)] [] Q :=
 Eq.mpr (zEf a n Q) (have h:=(big_Left.eq_1 k a n).symm.trans h; zab h (fun h=>zag (Q:=Q) (e:=zcE) h hQ) (fun h=>zab h (fun h=>zag (Q:=Q) (e:=zcE) h hQ) (fun h=>(zju hQ _) _ _ _ _ _ h)))
def zgR:Ans
 | [.pv (.arr .u64 4 a),.pv (.sc .i n)],[]=>some (some (-9223372036854775808≤n∧n < 9223372036854775808),zcE (uW (uV a*2 ^ n.toNat)))
 | _,_=>none
theorem zyD:TblOK Tryd.prog theG zpF:=.nil
theorem zmU:FnOK Tryd.prog theG 64 (unW zgR):=by
 refine FnOK.ofC (T:=zpF) (nt:=57) (np:=0) (mv:=[]) (nf:=false) (hs:=zdl) (fn:=Tryd.f64) (body:=zd3) zyD (by kernel_rfl) (by kernel_rfl) (by kernel_rfl) (by kernel_rfl) (c:=zgR) (lv:=zda) ?_
 intro xs mem p out h hp
 unfold zgR at h
 split at h
 ·cases h
  obtain ⟨k,hk⟩:=zwE _ _ hp
  exact zEt _ _ hk rfl
 ·cases h
end
end Go.Proofs.YtnolgfdjcipmmaaDoor.M
namespace Go.Proofs.YtnolgfdjcipmmaaDoor.M
open Go
noncomputable section
set_option maxRecDepth 100000
set_option maxHeartbeats 0
noncomputable def zrQ:Tbl:=[]
noncomputable def zeb:CfgW:=mkC Tryd.prog theG zrQ 28 0 false
def zfz:Nat→List Nat:=fun i=>bif Nat.beq i 0 then [2,3,4,6,8]else []
noncomputable abbrev zhr:Code:=Tryd.f26.body.getD .skip
noncomputable abbrev zir:List ResultVar:=Tryd.f26.results.toList
def zfs:List Nat:=[]
def zg5 (r:Vector UInt64 4 × Bool):CallOut:=⟨.tup [.pv (.arr .u64 4 r.1),.pv (.sc .b r.2)],[],true,[]⟩
def zlp (c:UInt64) (t8:Int) (a:Vector UInt64 4) (b:Vector UInt64 4) (t4:Vector UInt64 4):St:=⟨[(2,.p 60000 []),(3,.p 60001 []),(4,.p 60002 []),(6,.pv (.sc .u64 c)),(8,.pv (.sc .i t8))],[(60000,.box (.pv (.arr .u64 4 a))),(60001,.box (.pv (.arr .u64 4 b))),(60002,.box (.pv (.arr .u64 4 t4)))]⟩
theorem zFC (c:UInt64) (t8:Int) (a:Vector UInt64 4) (b:Vector UInt64 4) (t4:Vector UInt64 4) (Q:CallOut→Prop):zas zeb zfz [true,true,false,true,false] zhr (zlp c t8 a b t4) (fnK zeb zir zfs Q) =
  (zaf (decide (t8 < (4:Int))) ((((0:Int)≤t8)∧(t8 < (4:Int)))∧((((0:Int)≤t8)∧(t8 < (4:Int)))∧(((UInt64.toNat c)≤(1:Nat))∧((((0:Int)≤t8)∧(t8 < (4:Int)))∧(zah zeb zfz [true,true,false,true,false] zhr (zlp (zhY (List.getD (Vector.toList a) (Int.toNat t8) (0:UInt64)) (List.getD (Vector.toList b) (Int.toNat t8) (0:UInt64)) c) (w64 (t8+(1:Int))) (Vector.setIfInBounds a (Int.toNat t8) (((List.getD (Vector.toList a) (Int.toNat t8) (0:UInt64))+(List.getD (Vector.toList b) (Int.toNat t8) (0:UInt64)))+c)) b t4) (fnK zeb zir zfs Q)))))) (Q (zg5 (a,(!(decide (c=(0:UInt64)))))))):=by kernel_rfl
theorem zuW {r:Vector UInt64 4 × Bool} {Q:CallOut→Prop} (hQ:Q (zg5 r)):∀ k:Nat,(∀ (c:UInt64) (t8:Int) (a:Vector UInt64 4) (b:Vector UInt64 4) (t4:Vector UInt64 4),big_Add_h0 k c t8 a b t4=some r→zah zeb zfz [true,true,false,true,false] zhr (zlp c t8 a b t4) (fnK zeb zir zfs Q))
 | 0=>fun _ _ _ _ _ h=>zb9 h
 | k+1=>fun c t8 a b t4 h=>zal (Eq.mpr (zFC c t8 a b t4 Q) (have h:=(big_Add_h0.eq_2 c t8 a b t4 k).symm.trans h; zab h (fun h=>zad h fun hc0 h=>⟨hc0,zad h fun hc1 h=>⟨hc0,(zuW hQ k) _ _ _ _ _ h⟩⟩) (fun h=>zag (Q:=Q) (e:=zg5) h hQ)))
theorem zHm (a:Vector UInt64 4) (b:Vector UInt64 4) (Q:CallOut→Prop):zac zeb zfz zir zfs zhr [.pv (.arr .u64 4 a),.pv (.arr .u64 4 b)] [] Q =
  (zah zeb zfz [true,true,false,true,false] zhr (zlp (0:UInt64) (0:Int) a b (Vector.replicate 4 (0:UInt64))) (fnK zeb zir zfs Q)):=by kernel_rfl
theorem zFR {k:Nat} (a:Vector UInt64 4) (b:Vector UInt64 4) {r} {Q:CallOut→Prop} (h:big_Add k a b=some r) (hQ:Q (zg5 r)):zac zeb zfz zir zfs zhr [.pv (.arr .u64 4 a),.pv (.arr .u64 4 b)] [] Q :=
 Eq.mpr (zHm a b Q) (have h:=(big_Add.eq_1 k a b).symm.trans h; (zuW hQ _) _ _ _ _ _ h)
def zk9:Ans
 | [.pv (.arr .u64 4 a),.pv (.arr .u64 4 b)],[]=>some (none,zg5 ((addV a b,addB a b)))
 | _,_=>none
theorem zBk:TblOK Tryd.prog theG zrQ:=.nil
theorem zvo:FnOK Tryd.prog theG 26 (unW zk9):=by
 refine FnOK.ofC (T:=zrQ) (nt:=28) (np:=0) (mv:=[]) (nf:=false) (hs:=zfs) (fn:=Tryd.f26) (body:=zhr) zBk (by kernel_rfl) (by kernel_rfl) (by kernel_rfl) (by kernel_rfl) (c:=zk9) (lv:=zfz) ?_
 intro xs mem p out h hp
 unfold zk9 at h
 split at h
 ·cases h
  obtain ⟨k,hk⟩:=zAu _ _
  exact zFR _ _ hk rfl
 ·cases h
end
end Go.Proofs.YtnolgfdjcipmmaaDoor.M
namespace Go.Proofs.YtnolgfdjcipmmaaDoor.M
open Go
noncomputable section
set_option maxRecDepth 100000
set_option maxHeartbeats 0
noncomputable def ztf:Tbl:=[]
noncomputable def zd9:CfgW:=mkC Tryd.prog theG ztf 28 0 false
def zfn:Nat→List Nat:=fun i=>bif Nat.beq i 0 then [2,3,4,6,8]else []
noncomputable abbrev zhs:Code:=Tryd.f27.body.getD .skip
noncomputable abbrev ziz:List ResultVar:=Tryd.f27.results.toList
def zfx:List Nat:=[]
def zhd (r:Vector UInt64 4 × Bool):CallOut:=⟨.tup [.pv (.arr .u64 4 r.1),.pv (.sc .b r.2)],[],true,[]⟩
def zlo (c:UInt64) (t8:Int) (a:Vector UInt64 4) (b:Vector UInt64 4) (t4:Vector UInt64 4):St:=⟨[(2,.p 60000 []),(3,.p 60001 []),(4,.p 60002 []),(6,.pv (.sc .u64 c)),(8,.pv (.sc .i t8))],[(60000,.box (.pv (.arr .u64 4 a))),(60001,.box (.pv (.arr .u64 4 b))),(60002,.box (.pv (.arr .u64 4 t4)))]⟩
theorem zEO (c:UInt64) (t8:Int) (a:Vector UInt64 4) (b:Vector UInt64 4) (t4:Vector UInt64 4) (Q:CallOut→Prop):zas zd9 zfn [true,true,false,true,false] zhs (zlo c t8 a b t4) (fnK zd9 ziz zfx Q) =
  (zaf (decide (t8 < (4:Int))) ((((0:Int)≤t8)∧(t8 < (4:Int)))∧((((0:Int)≤t8)∧(t8 < (4:Int)))∧(((UInt64.toNat c)≤(1:Nat))∧((((0:Int)≤t8)∧(t8 < (4:Int)))∧(zah zd9 zfn [true,true,false,true,false] zhs (zlo (zmE (List.getD (Vector.toList a) (Int.toNat t8) (0:UInt64)) (List.getD (Vector.toList b) (Int.toNat t8) (0:UInt64)) c) (w64 (t8+(1:Int))) (Vector.setIfInBounds a (Int.toNat t8) (((List.getD (Vector.toList a) (Int.toNat t8) (0:UInt64)) - (List.getD (Vector.toList b) (Int.toNat t8) (0:UInt64))) - c)) b t4) (fnK zd9 ziz zfx Q)))))) (Q (zhd (a,(!(decide (c=(0:UInt64)))))))):=by kernel_rfl
theorem zvt {r:Vector UInt64 4 × Bool} {Q:CallOut→Prop} (hQ:Q (zhd r)):∀ k:Nat,(∀ (c:UInt64) (t8:Int) (a:Vector UInt64 4) (b:Vector UInt64 4) (t4:Vector UInt64 4),big_Sub_h0 k c t8 a b t4=some r→zah zd9 zfn [true,true,false,true,false] zhs (zlo c t8 a b t4) (fnK zd9 ziz zfx Q))
 | 0=>fun _ _ _ _ _ h=>zb9 h
 | k+1=>fun c t8 a b t4 h=>zal (Eq.mpr (zEO c t8 a b t4 Q) (have h:=(big_Sub_h0.eq_2 c t8 a b t4 k).symm.trans h; zab h (fun h=>zad h fun hc0 h=>⟨hc0,zad h fun hc1 h=>⟨hc0,(zvt hQ k) _ _ _ _ _ h⟩⟩) (fun h=>zag (Q:=Q) (e:=zhd) h hQ)))
theorem zGM (a:Vector UInt64 4) (b:Vector UInt64 4) (Q:CallOut→Prop):zac zd9 zfn ziz zfx zhs [.pv (.arr .u64 4 a),.pv (.arr .u64 4 b)] [] Q =
  (zah zd9 zfn [true,true,false,true,false] zhs (zlo (0:UInt64) (0:Int) a b (Vector.replicate 4 (0:UInt64))) (fnK zd9 ziz zfx Q)):=by kernel_rfl
theorem zGe {k:Nat} (a:Vector UInt64 4) (b:Vector UInt64 4) {r} {Q:CallOut→Prop} (h:big_Sub k a b=some r) (hQ:Q (zhd r)):zac zd9 zfn ziz zfx zhs [.pv (.arr .u64 4 a),.pv (.arr .u64 4 b)] [] Q :=
 Eq.mpr (zGM a b Q) (have h:=(big_Sub.eq_1 k a b).symm.trans h; (zvt hQ _) _ _ _ _ _ h)
def zhe:Ans
 | [.pv (.arr .u64 4 a),.pv (.arr .u64 4 b)],[]=>some (none,zhd ((subV a b,subB a b)))
 | _,_=>none
theorem zB3:TblOK Tryd.prog theG ztf:=.nil
theorem zlq:FnOK Tryd.prog theG 27 (unW zhe):=by
 refine FnOK.ofC (T:=ztf) (nt:=28) (np:=0) (mv:=[]) (nf:=false) (hs:=zfx) (fn:=Tryd.f27) (body:=zhs) zB3 (by kernel_rfl) (by kernel_rfl) (by kernel_rfl) (by kernel_rfl) (c:=zhe) (lv:=zfn) ?_
 intro xs mem p out h hp
 unfold zhe at h
 split at h
 ·cases h
  obtain ⟨k,hk⟩:=zyU _ _
  exact zGe _ _ hk rfl
 ·cases h
end
end Go.Proofs.YtnolgfdjcipmmaaDoor.M
namespace Go.Proofs.YtnolgfdjcipmmaaDoor.M
open Go
noncomputable section
set_option maxRecDepth 100000
set_option maxHeartbeats 0
noncomputable def zsf:Tbl:=[]
noncomputable def zzt:CfgW:=mkC Tryd.prog theG zsf 15 0 false
def zoZ:Nat→List Nat:=fun i=>[]
noncomputable abbrev zst:Code:=Tryd.f65.body.getD .skip
noncomputable abbrev zA5:List ResultVar:=Tryd.f65.results.toList
def zpC:List Nat:=[]
def ziW (r:Bool):CallOut:=⟨.pv (.sc .b r),[],true,[]⟩
theorem zGP (a:Vector UInt64 4) (n:Int) (Q:CallOut→Prop):zac zzt zoZ zA5 zpC zst [.pv (.arr .u64 4 a),.pv (.sc .i n)] [] Q =
  (((64:Int)≠(0:Int))∧((((0:Int)≤(w64 (Int.tdiv n (64:Int))))∧((w64 (Int.tdiv n (64:Int))) < (4:Int)))∧(((64:UInt64)≠(0:UInt64))∧(Q (ziW (!(decide (((zaa (List.getD (Vector.toList a) (Int.toNat (w64 (Int.tdiv n (64:Int)))) (0:UInt64)) (UInt64.toNat ((UInt64.ofInt n) % (64:UInt64)))) &&& (1:UInt64))=(0:UInt64))))))))):=by kernel_rfl
theorem zGc (a:Vector UInt64 4) (n:Int) {r} {Q:CallOut→Prop} (h:big_bit a n=some r) (hQ:Q (ziW r)):zac zzt zoZ zA5 zpC zst [.pv (.arr .u64 4 a),.pv (.sc .i n)] [] Q :=
 Eq.mpr (zGP a n Q) (have h:=(big_bit.eq_1 a n).symm.trans h; ⟨by decide +kernel,zad h fun hc0 h=>⟨by decide +kernel,zag (Q:=Q) (e:=ziW) h hQ⟩⟩)
def znJ:Ans
 | [.pv (.arr .u64 4 a),.pv (.sc .i n)],[]=>some (some (0≤n∧n < 256),ziW ((uV a).testBit n.toNat))
 | _,_=>none
theorem zCF:TblOK Tryd.prog theG zsf:=.nil
theorem zEW:FnOK Tryd.prog theG 65 (unW znJ):=by
 refine FnOK.ofC (T:=zsf) (nt:=15) (np:=0) (mv:=[]) (nf:=false) (hs:=zpC) (fn:=Tryd.f65) (body:=zst) zCF (by kernel_rfl) (by kernel_rfl) (by kernel_rfl) (by kernel_rfl) (c:=znJ) (lv:=zoZ) ?_
 intro xs mem p out h hp
 unfold znJ at h
 split at h
 ·cases h
  exact zGc _ _ (zAV _ _ hp) rfl
 ·cases h
end
end Go.Proofs.YtnolgfdjcipmmaaDoor.M
namespace Go.Proofs.YtnolgfdjcipmmaaDoor.M
open Go
noncomputable section
set_option maxRecDepth 100000
set_option maxHeartbeats 0
noncomputable def zpG:Tbl:=[(63,[],ziv),(65,[],znJ),(64,[],zgR),(27,[],zhe)]
noncomputable def zba:CfgW:=mkC Tryd.prog theG zpG 58 0 false
def zb5:Nat→List Nat:=fun i=>bif Nat.beq i 0 then [2,3,4,5,7]else []
noncomputable abbrev zcw:Code:=Tryd.f45.body.getD .skip
noncomputable abbrev zcU:List ResultVar:=Tryd.f45.results.toList
def zb4:List Nat:=[]
def zdT (r:Vector UInt64 4 × Vector UInt64 4 × Int):CallOut:=⟨.tup [.pv (.arr .u64 4 r.1),.pv (.arr .u64 4 r.2.1),.pv (.sc .i r.2.2)],[],true,[]⟩
def zc5 (n:Int) (a:Vector UInt64 4) (b:Vector UInt64 4) (q:Vector UInt64 4) (r_:Vector UInt64 4):St:=⟨[(2,.p 60000 []),(3,.p 60001 []),(4,.p 60002 []),(5,.p 60003 []),(7,.pv (.sc .i n))],[(60000,.box (.pv (.arr .u64 4 a))),(60001,.box (.pv (.arr .u64 4 b))),(60002,.box (.pv (.arr .u64 4 q))),(60003,.box (.pv (.arr .u64 4 r_)))]⟩
theorem zBU (n:Int) (a:Vector UInt64 4) (b:Vector UInt64 4) (q:Vector UInt64 4) (r_:Vector UInt64 4) (Q:CallOut→Prop):zas zba zb5 [true,true,false,true,false] zcw (zc5 n a b q r_) (fnK zba zcU zb4 Q) =
 (let s0:=(((64:Int)≠(0:Int))∧((((0:Int)≤(w64 (Int.tdiv n (64:Int))))∧((w64 (Int.tdiv n (64:Int))) < (4:Int)))∧(((64:UInt64)≠(0:UInt64))∧((((0:Int)≤(w64 (Int.tdiv n (64:Int))))∧((w64 (Int.tdiv n (64:Int))) < (4:Int)))∧(zah zba zb5 [true,true,false,true,false] zcw (zc5 (w64 (n - (1:Int))) a b (Vector.setIfInBounds q (Int.toNat (w64 (Int.tdiv n (64:Int)))) ((List.getD (Vector.toList q) (Int.toNat (w64 (Int.tdiv n (64:Int)))) (0:UInt64)) ||| (zaq (1:UInt64) (UInt64.toNat ((UInt64.ofInt n) % (64:UInt64)))))) (subV (Vector.setIfInBounds (uW ((uV r_)*((2:Nat) ^ (1:Nat)))) (0:Nat) ((List.getD (Vector.toList (uW ((uV r_)*((2:Nat) ^ (1:Nat))))) (0:Nat) (0:UInt64)) ||| (1:UInt64))) b)) (fnK zba zcU zb4 Q))))));let s1:=(((64:Int)≠(0:Int))∧((((0:Int)≤(w64 (Int.tdiv n (64:Int))))∧((w64 (Int.tdiv n (64:Int))) < (4:Int)))∧(((64:UInt64)≠(0:UInt64))∧((((0:Int)≤(w64 (Int.tdiv n (64:Int))))∧((w64 (Int.tdiv n (64:Int))) < (4:Int)))∧(zah zba zb5 [true,true,false,true,false] zcw (zc5 (w64 (n - (1:Int))) a b (Vector.setIfInBounds q (Int.toNat (w64 (Int.tdiv n (64:Int)))) ((List.getD (Vector.toList q) (Int.toNat (w64 (Int.tdiv n (64:Int)))) (0:UInt64)) ||| (zaq (1:UInt64) (UInt64.toNat ((UInt64.ofInt n) % (64:UInt64)))))) (subV (uW ((uV r_)*((2:Nat) ^ (1:Nat)))) b)) (fnK zba zcU zb4 Q))))));let s2:=(Vector.setIfInBounds (uW ((uV r_)*((2:Nat) ^ (1:Nat)))) (0:Nat) ((List.getD (Vector.toList (uW ((uV r_)*((2:Nat) ^ (1:Nat))))) (0:Nat) (0:UInt64)) ||| (1:UInt64)));(zaf (decide ((0:Int)≤n)) ((((0:Int)≤(255:Int))∧((255:Int) < (256:Int)))∧((((-(9223372036854775808:Int))≤(1:Int))∧((1:Int) < (9223372036854775808:Int)))∧((((0:Int)≤n)∧(n < (256:Int)))∧(zaf (Nat.testBit (uV a) (Int.toNat n)) ((((0:Int)≤(0:Int))∧((0:Int) < (4:Int)))∧((((0:Int)≤(0:Int))∧((0:Int) < (4:Int)))∧(zaf (eqb (Nat.testBit (uV r_) (255:Nat)) false) (zaf (bif false then true else(!(subB  s2  b)))  s0  (zah zba zb5 [true,true,false,true,false] zcw (zc5 (w64 (n - (1:Int))) a b q  s2 ) (fnK zba zcU zb4 Q)))  s0 ))) (zaf (eqb (Nat.testBit (uV r_) (255:Nat)) false) (zaf (bif false then true else(!(subB (uW ((uV r_)*((2:Nat) ^ (1:Nat)))) b)))  s1  (zah zba zb5 [true,true,false,true,false] zcw (zc5 (w64 (n - (1:Int))) a b q (uW ((uV r_)*((2:Nat) ^ (1:Nat))))) (fnK zba zcU zb4 Q)))  s1 ))))) (Q (zdT (q,r_,(0:Int)))))):=by kernel_rfl
theorem zeo {r:Vector UInt64 4 × Vector UInt64 4 × Int} {Q:CallOut→Prop} (hQ:Q (zdT r)):∀ k:Nat,(∀ (n:Int) (a:Vector UInt64 4) (b:Vector UInt64 4) (q:Vector UInt64 4) (r_:Vector UInt64 4),big_Over_h0 k n a b q r_=some r→zah zba zb5 [true,true,false,true,false] zcw (zc5 n a b q r_) (fnK zba zcU zb4 Q))
 | 0=>fun _ _ _ _ _ h=>zb9 h
 | k+1=>fun n a b q r_ h=>zal (Eq.mpr (zBU n a b q r_ Q) (have h:=(big_Over_h0.eq_2 n a b q r_ k).symm.trans h; zab h (fun h=>⟨by decide +kernel,⟨by decide +kernel,zad h fun hc0 h=>zab h (fun h=>⟨by decide +kernel,⟨by decide +kernel,zab h (fun h=>zab h (fun h=>⟨by decide +kernel,zad h fun hc1 h=>⟨by decide +kernel,⟨hc1,(zeo hQ k) _ _ _ _ _ h⟩⟩⟩) (fun h=>(zeo hQ k) _ _ _ _ _ h)) (fun h=>⟨by decide +kernel,zad h fun hc1 h=>⟨by decide +kernel,⟨hc1,(zeo hQ k) _ _ _ _ _ h⟩⟩⟩)⟩⟩) (fun h=>zab h (fun h=>zab h (fun h=>⟨by decide +kernel,zad h fun hc1 h=>⟨by decide +kernel,⟨hc1,(zeo hQ k) _ _ _ _ _ h⟩⟩⟩) (fun h=>(zeo hQ k) _ _ _ _ _ h)) (fun h=>⟨by decide +kernel,zad h fun hc1 h=>⟨by decide +kernel,⟨hc1,(zeo hQ k) _ _ _ _ _ h⟩⟩⟩))⟩⟩) (fun h=>zag (Q:=Q) (e:=zdT) h hQ)))
theorem zEx (a:Vector UInt64 4) (b:Vector UInt64 4) (Q:CallOut→Prop):zac zba zb5 zcU zb4 zcw [.pv (.arr .u64 4 a),.pv (.arr .u64 4 b)] [] Q =
  (zaf (decide ((Vector.toList b)=(Vector.toList (Vector.replicate 4 (0:UInt64))))) (Q (zdT ((Vector.replicate 4 (0:UInt64)),(Vector.replicate 4 (0:UInt64)),(2:Int)))) (zah zba zb5 [true,true,false,true,false] zcw (zc5 (w64 ((((lenN (uV a)):Nat):Int) - (1:Int))) a b (Vector.replicate 4 (0:UInt64)) (Vector.replicate 4 (0:UInt64))) (fnK zba zcU zb4 Q))):=by kernel_rfl
theorem zFl {k:Nat} (a:Vector UInt64 4) (b:Vector UInt64 4) {r} {Q:CallOut→Prop} (h:big_Over k a b=some r) (hQ:Q (zdT r)):zac zba zb5 zcU zb4 zcw [.pv (.arr .u64 4 a),.pv (.arr .u64 4 b)] [] Q :=
 Eq.mpr (zEx a b Q) (have h:=(big_Over.eq_1 k a b).symm.trans h; zab h (fun h=>zag (Q:=Q) (e:=zdT) h hQ) (fun h=>(zeo hQ _) _ _ _ _ _ h))
def zlV:Ans
 | [.pv (.arr .u64 4 a),.pv (.arr .u64 4 b)],[]=>some (none,zdT ((ovQ a b,ovR a b,ovE b)))
 | _,_=>none
theorem zzr:TblOK Tryd.prog theG zpG:=.cons ⟨by kernel_rfl,zpu⟩ (.cons ⟨by kernel_rfl,zEW⟩ (.cons ⟨by kernel_rfl,zmU⟩ (.cons ⟨by kernel_rfl,zlq⟩ (.nil))))
theorem zB9:FnOK Tryd.prog theG 45 (unW zlV):=by
 refine FnOK.ofC (T:=zpG) (nt:=58) (np:=0) (mv:=[]) (nf:=false) (hs:=zb4) (fn:=Tryd.f45) (body:=zcw) zzr (by kernel_rfl) (by kernel_rfl) (by kernel_rfl) (by kernel_rfl) (c:=zlV) (lv:=zb5) ?_
 intro xs mem p out h hp
 unfold zlV at h
 split at h
 ·cases h
  obtain ⟨k,hk⟩:=zwL _ _
  exact zFl _ _ hk rfl
 ·cases h
end
end Go.Proofs.YtnolgfdjcipmmaaDoor.M
namespace Go.Proofs.YtnolgfdjcipmmaaDoor.M
open Go
noncomputable section
set_option maxRecDepth 100000
set_option maxHeartbeats 0
noncomputable def zpD:Tbl:=[(27,[],zhe)]
noncomputable def zvf:CfgW:=mkC Tryd.prog theG zpD 14 0 false
def zmn:Nat→List Nat:=fun i=>[]
noncomputable abbrev zo5:Code:=Tryd.f29.body.getD .skip
noncomputable abbrev zvS:List ResultVar:=Tryd.f29.results.toList
def znx:List Nat:=[]
def zf5 (r:Bool):CallOut:=⟨.pv (.sc .b r),[],true,[]⟩
theorem zFa (a:Vector UInt64 4) (b:Vector UInt64 4) (Q:CallOut→Prop):zac zvf zmn zvS znx zo5 [.pv (.arr .u64 4 a),.pv (.arr .u64 4 b)] [] Q =
  (Q (zf5 (subB a b))):=by kernel_rfl
theorem zEo (a:Vector UInt64 4) (b:Vector UInt64 4) {Q:CallOut→Prop} (h:Q (zf5 (big_Less a b))):zac zvf zmn zvS znx zo5 [.pv (.arr .u64 4 a),.pv (.arr .u64 4 b)] [] Q :=
 Eq.mpr (zFa a b Q) (have h:=Eq.mp (congrArg (fun r=>Q (zf5 r)) (big_Less.eq_1 a b)) h; h)
def ziy:Ans
 | [.pv (.arr .u64 4 a),.pv (.arr .u64 4 b)],[]=>some (none,zf5 (subB a b))
 | _,_=>none
theorem zy3:TblOK Tryd.prog theG zpD:=.cons ⟨by kernel_rfl,zlq⟩ (.nil)
theorem zr5:FnOK Tryd.prog theG 29 (unW ziy):=by
 refine FnOK.ofC (T:=zpD) (nt:=14) (np:=0) (mv:=[]) (nf:=false) (hs:=znx) (fn:=Tryd.f29) (body:=zo5) zy3 (by kernel_rfl) (by kernel_rfl) (by kernel_rfl) (by kernel_rfl) (c:=ziy) (lv:=zmn) ?_
 intro xs mem p out h hp
 unfold ziy at h
 split at h
 ·cases h
  exact zEo _ _ (congrArg zf5 (zwD _ _))
 ·cases h
end
end Go.Proofs.YtnolgfdjcipmmaaDoor.M
namespace Go.Proofs.YtnolgfdjcipmmaaDoor.M
open Go
noncomputable section
set_option maxRecDepth 100000
set_option maxHeartbeats 0
noncomputable def zsU:Tbl:=[(84,[],zhD)]
noncomputable def zeh:CfgW:=mkC Tryd.prog theG zsU 37 0 false
def zfo:Nat→List Nat:=fun i=>bif Nat.beq i 0 then [1,2,4,6,11]else []
noncomputable abbrev zhq:Code:=Tryd.f72.body.getD .skip
noncomputable abbrev zix:List ResultVar:=Tryd.f72.results.toList
def zff:List Nat:=[]
def zhi (r:Vector UInt64 4 × UInt64):CallOut:=⟨.tup [.pv (.arr .u64 4 r.1),.pv (.sc .u64 r.2)],[],true,[]⟩
def zlL (n:UInt64) (carry:UInt64) (t11:Int) (a:Vector UInt64 4) (t4:Vector UInt64 4):St:=⟨[(1,.pv (.sc .u64 n)),(2,.p 60000 []),(4,.p 60001 []),(6,.pv (.sc .u64 carry)),(11,.pv (.sc .i t11))],[(60000,.box (.pv (.arr .u64 4 a))),(60001,.box (.pv (.arr .u64 4 t4)))]⟩
theorem zD5 (n:UInt64) (carry:UInt64) (t11:Int) (a:Vector UInt64 4) (t4:Vector UInt64 4) (Q:CallOut→Prop):zas zeh zfo [true,true,false,true,false] zhq (zlL n carry t11 a t4) (fnK zeh zix zff Q) =
  (zaf (decide (t11 < (4:Int))) ((((0:Int)≤t11)∧(t11 < (4:Int)))∧(((0:Nat)≤(1:Nat))∧((((0:Int)≤t11)∧(t11 < (4:Int)))∧(zah zeh zfo [true,true,false,true,false] zhq (zlL n ((zyb (List.getD (Vector.toList a) (Int.toNat t11) (0:UInt64)) n)+(zhY (zq8 (List.getD (Vector.toList a) (Int.toNat t11) (0:UInt64)) n) carry (0:UInt64))) (w64 (t11+(1:Int))) (Vector.setIfInBounds a (Int.toNat t11) (((zq8 (List.getD (Vector.toList a) (Int.toNat t11) (0:UInt64)) n)+carry)+(0:UInt64))) t4) (fnK zeh zix zff Q))))) (Q (zhi (a,carry)))):=by kernel_rfl
theorem zvW {r:Vector UInt64 4 × UInt64} {Q:CallOut→Prop} (hQ:Q (zhi r)):∀ k:Nat,(∀ (n:UInt64) (carry:UInt64) (t11:Int) (a:Vector UInt64 4) (t4:Vector UInt64 4),big_Mul_h0 k n carry t11 a t4=some r→zah zeh zfo [true,true,false,true,false] zhq (zlL n carry t11 a t4) (fnK zeh zix zff Q))
 | 0=>fun _ _ _ _ _ h=>zb9 h
 | k+1=>fun n carry t11 a t4 h=>zal (Eq.mpr (zD5 n carry t11 a t4 Q) (have h:=(big_Mul_h0.eq_2 n carry t11 a t4 k).symm.trans h; zab h (fun h=>zad h fun hc0 h=>⟨by decide +kernel,⟨hc0,(zvW hQ k) _ _ _ _ _ h⟩⟩) (fun h=>zag (Q:=Q) (e:=zhi) h hQ)))
theorem zFK (a:Vector UInt64 4) (n:UInt64) (Q:CallOut→Prop):zac zeh zfo zix zff zhq [.pv (.arr .u64 4 a),.pv (.sc .u64 n)] [] Q =
  (zah zeh zfo [true,true,false,true,false] zhq (zlL n (0:UInt64) (0:Int) a (Vector.replicate 4 (0:UInt64))) (fnK zeh zix zff Q)):=by kernel_rfl
theorem zF2 {k:Nat} (a:Vector UInt64 4) (n:UInt64) {r} {Q:CallOut→Prop} (h:big_Mul k a n=some r) (hQ:Q (zhi r)):zac zeh zfo zix zff zhq [.pv (.arr .u64 4 a),.pv (.sc .u64 n)] [] Q :=
 Eq.mpr (zFK a n Q) (have h:=(big_Mul.eq_1 k a n).symm.trans h; (zvW hQ _) _ _ _ _ _ h)
def znQ:Ans
 | [.pv (.arr .u64 4 a),.pv (.sc .u64 n)],[]=>some (none,zhi ((uW (uV a*n.toNat),mulC a n)))
 | _,_=>none
theorem zB2:TblOK Tryd.prog theG zsU:=.cons ⟨by kernel_rfl,zyq⟩ (.nil)
theorem zEh:FnOK Tryd.prog theG 72 (unW znQ):=by
 refine FnOK.ofC (T:=zsU) (nt:=37) (np:=0) (mv:=[]) (nf:=false) (hs:=zff) (fn:=Tryd.f72) (body:=zhq) zB2 (by kernel_rfl) (by kernel_rfl) (by kernel_rfl) (by kernel_rfl) (c:=znQ) (lv:=zfo) ?_
 intro xs mem p out h hp
 unfold znQ at h
 split at h
 ·cases h
  obtain ⟨k,hk⟩:=zAT _ _
  exact zF2 _ _ hk rfl
 ·cases h
end
end Go.Proofs.YtnolgfdjcipmmaaDoor.M
namespace Go.Proofs.YtnolgfdjcipmmaaDoor.M
open Go
noncomputable section
set_option maxRecDepth 100000
set_option maxHeartbeats 0
noncomputable def zrE:Tbl:=[(85,[],zhz)]
noncomputable def zeg:CfgW:=mkC Tryd.prog theG zrE 29 0 false
def zfi:Nat→List Nat:=fun i=>bif Nat.beq i 0 then [1,2,4,7,8]else []
noncomputable abbrev zhh:Code:=Tryd.f73.body.getD .skip
noncomputable abbrev zik:List ResultVar:=Tryd.f73.results.toList
def zfw:List Nat:=[]
def zex (r:Vector UInt64 4 × UInt64 × Int):CallOut:=⟨.tup [.pv (.arr .u64 4 r.1),.pv (.sc .u64 r.2.1),.pv (.sc .i r.2.2)],[],true,[]⟩
def zlJ (n:UInt64) (left:UInt64) (i:Int) (a:Vector UInt64 4) (t4:Vector UInt64 4):St:=⟨[(1,.pv (.sc .u64 n)),(2,.p 60000 []),(4,.p 60001 []),(7,.pv (.sc .u64 left)),(8,.pv (.sc .i i))],[(60000,.box (.pv (.arr .u64 4 a))),(60001,.box (.pv (.arr .u64 4 t4)))]⟩
theorem zE7 (n:UInt64) (left:UInt64) (i:Int) (a:Vector UInt64 4) (t4:Vector UInt64 4) (Q:CallOut→Prop):zas zeg zfi [true,true,true,false,true,false] zhh (zlJ n left i a t4) (fnK zeg zik zfw Q) =
  (zaf (decide ((0:Int)≤i)) ((((0:Int)≤i)∧(i < (4:Int)))∧(((UInt64.toNat left) < (UInt64.toNat n))∧((((0:Int)≤i)∧(i < (4:Int)))∧(zah zeg zfi [true,true,true,false,true,false] zhh (zlJ n (UInt64.ofNat ((((UInt64.toNat left)*(18446744073709551616:Nat))+(UInt64.toNat (List.getD (Vector.toList a) (Int.toNat i) (0:UInt64)))) % (UInt64.toNat n))) (w64 (i - (1:Int))) (Vector.setIfInBounds a (Int.toNat i) (UInt64.ofNat ((((UInt64.toNat left)*(18446744073709551616:Nat))+(UInt64.toNat (List.getD (Vector.toList a) (Int.toNat i) (0:UInt64)))) / (UInt64.toNat n)))) t4) (fnK zeg zik zfw Q))))) (Q (zex (a,left,(0:Int))))):=by kernel_rfl
theorem zv3 {r:Vector UInt64 4 × UInt64 × Int} {Q:CallOut→Prop} (hQ:Q (zex r)):∀ k:Nat,(∀ (n:UInt64) (left:UInt64) (i:Int) (a:Vector UInt64 4) (t4:Vector UInt64 4),big_Div_h0 k n left i a t4=some r→zah zeg zfi [true,true,true,false,true,false] zhh (zlJ n left i a t4) (fnK zeg zik zfw Q))
 | 0=>fun _ _ _ _ _ h=>zb9 h
 | k+1=>fun n left i a t4 h=>zal (Eq.mpr (zE7 n left i a t4 Q) (have h:=(big_Div_h0.eq_2 n left i a t4 k).symm.trans h; zab h (fun h=>zad h fun hc0 h=>zad h fun hc1 h=>⟨hc0,(zv3 hQ k) _ _ _ _ _ h⟩) (fun h=>zag (Q:=Q) (e:=zex) h hQ)))
theorem zFS (a:Vector UInt64 4) (n:UInt64) (Q:CallOut→Prop):zac zeg zfi zik zfw zhh [.pv (.arr .u64 4 a),.pv (.sc .u64 n)] [] Q =
  (zaf (decide (n=(0:UInt64))) (Q (zex ((Vector.replicate 4 (0:UInt64)),(0:UInt64),(2:Int)))) (zah zeg zfi [true,true,true,false,true,false] zhh (zlJ n (0:UInt64) (3:Int) a (Vector.replicate 4 (0:UInt64))) (fnK zeg zik zfw Q))):=by kernel_rfl
theorem zFO {k:Nat} (a:Vector UInt64 4) (n:UInt64) {r} {Q:CallOut→Prop} (h:big_Div k a n=some r) (hQ:Q (zex r)):zac zeg zfi zik zfw zhh [.pv (.arr .u64 4 a),.pv (.sc .u64 n)] [] Q :=
 Eq.mpr (zFS a n Q) (have h:=(big_Div.eq_1 k a n).symm.trans h; zab h (fun h=>zag (Q:=Q) (e:=zex) h hQ) (fun h=>(zv3 hQ _) _ _ _ _ _ h))
def znS:Ans
 | [.pv (.arr .u64 4 a),.pv (.sc .u64 n)],[]=>some (none,zex ((uW (uV a / n.toNat),divR a n,divE n)))
 | _,_=>none
theorem zBY:TblOK Tryd.prog theG zrE:=.cons ⟨by kernel_rfl,zwI⟩ (.nil)
theorem zEI:FnOK Tryd.prog theG 73 (unW znS):=by
 refine FnOK.ofC (T:=zrE) (nt:=29) (np:=0) (mv:=[]) (nf:=false) (hs:=zfw) (fn:=Tryd.f73) (body:=zhh) zBY (by kernel_rfl) (by kernel_rfl) (by kernel_rfl) (by kernel_rfl) (c:=znS) (lv:=zfi) ?_
 intro xs mem p out h hp
 unfold znS at h
 split at h
 ·cases h
  obtain ⟨k,hk⟩:=zyT _ _
  exact zFO _ _ hk rfl
 ·cases h
end
end Go.Proofs.YtnolgfdjcipmmaaDoor.M
