/- Part of the proofs: what functions of the program do: plain functions, and the walks that show it. No condition. -/
import Derived.KernelRfl
import Derived.Test.YtnolgfdjcipmmaaDoorProg
import Derived.Test.YtnolgfdjcipmmaaDoorLe
import Derived.Test.YtnolgfdjcipmmaaDoorSwords
import Derived.Test.YtnolgfdjcipmmaaDoorSbigS
import Derived.Test.YtnolgfdjcipmmaaDoorSbigB
import Derived.Test.YtnolgfdjcipmmaaDoorFbits
import Derived.Test.YtnolgfdjcipmmaaDoorScellS
import Derived.Test.YtnolgfdjcipmmaaDoorSshaK
set_option linter.unusedVariables false
set_option linter.unusedSimpArgs false
set_option autoImplicit false
namespace Go.Proofs.YtnolgfdjcipmmaaDoor.M
open Go
noncomputable section
def big_Of (n:UInt64):Vector UInt64 4 :=
  (Vector.setIfInBounds (Vector.replicate 4 (0:UInt64)) (0:Nat) n)
theorem zAW (n:UInt64):big_Of n=uW n.toNat:=by
  have hn:=n.toNat_lt
  refine zGa fun q hq=>?_
  rw[zkG _ _ hq]
  unfold big_Of gW
  rw[zaC _ _ _ _ _ (by omega),zBV]
  have:q=0∨q=1∨q=2∨q=3:=by omega
  rcases this with h | h | h | h<;>subst h<;>simp<;>omega
end
end Go.Proofs.YtnolgfdjcipmmaaDoor.M
namespace Go.Proofs.YtnolgfdjcipmmaaDoor.M
open Go
noncomputable section
def big_Right_h1:Nat→Int→Int→(Vector UInt64 4)→(Vector UInt64 4)→(Vector UInt64 4)→Option (Vector UInt64 4)
  | 0,_,_,_,_,_=>none
  | k+1,n,i,a,t4,x_=>bif decide ((w64 (i+(w64 (Int.tdiv n (64:Int))))) < (4:Int)) then(if((0:Int)≤(w64 (i+(w64 (Int.tdiv n (64:Int))))))∧((w64 (i+(w64 (Int.tdiv n (64:Int))))) < (4:Int)) then
        if(
            (0:Int)≤i)∧(i < (4:Int)) then
          bif eqb (decide ((w64 ((w64 (i+(w64 (Int.tdiv n (64:Int)))))+(1:Int))) < (4:Int))) true then(bif bif true then(!(decide ((Int.tmod n (64:Int))=(0:Int))))else false then(if((0:Int)≤(w64 ((w64 (i+(w64 (Int.tdiv n (64:Int)))))+(1:Int))))∧((w64 ((w64 (i+(w64 (Int.tdiv n (64:Int)))))+(1:Int))) < (4:Int)) then
                big_Right_h1 k n (w64 (i+(1:Int))) a t4 (Vector.setIfInBounds (Vector.setIfInBounds x_ (Int.toNat i) (zaa (List.getD (Vector.toList a) (Int.toNat (w64 (i+(w64 (Int.tdiv n (64:Int)))))) (0:UInt64)) (UInt64.toNat ((UInt64.ofInt n) % (64:UInt64))))) (Int.toNat i) ((List.getD (Vector.toList (Vector.setIfInBounds x_ (Int.toNat i) (zaa (List.getD (Vector.toList a) (Int.toNat (w64 (i+(w64 (Int.tdiv n (64:Int)))))) (0:UInt64)) (UInt64.toNat ((UInt64.ofInt n) % (64:UInt64)))))) (Int.toNat i) (0:UInt64)) ||| (zah (List.getD (Vector.toList a) (Int.toNat (w64 ((w64 (i+(w64 (Int.tdiv n (64:Int)))))+(1:Int)))) (0:UInt64)) (UInt64.toNat ((64:UInt64) - ((UInt64.ofInt n) % (64:UInt64)))))))
              else none)
              else(big_Right_h1 k n (w64 (i+(1:Int))) a t4 (Vector.setIfInBounds x_ (Int.toNat i) (zaa (List.getD (Vector.toList a) (Int.toNat (w64 (i+(w64 (Int.tdiv n (64:Int)))))) (0:UInt64)) (UInt64.toNat ((UInt64.ofInt n) % (64:UInt64)))))))
            else(big_Right_h1 k n (w64 (i+(1:Int))) a t4 (Vector.setIfInBounds x_ (Int.toNat i) (zaa (List.getD (Vector.toList a) (Int.toNat (w64 (i+(w64 (Int.tdiv n (64:Int)))))) (0:UInt64)) (UInt64.toNat ((UInt64.ofInt n) % (64:UInt64))))))
        else none
      else none)
      else(some x_)
def big_Right (k:Nat) (a:Vector UInt64 4) (n:Int):Option (Vector UInt64 4) :=
  bif decide (n≤(0:Int)) then(some a)
    else(bif decide ((256:Int)≤n) then(some (Vector.replicate 4 (0:UInt64)))
      else(big_Right_h1 k n (0:Int) a (Vector.replicate 4 (0:UInt64)) (Vector.replicate 4 (0:UInt64))))
theorem ztM (a:Vector UInt64 4) (n:Int) (h:-9223372036854775808≤n∧n < 9223372036854775808):∃ k,big_Right k a n=some (uW (uV a / 2 ^ n.toNat)):=by
  show Ev (fun k=>big_Right k a n) _
  refine Ev.same (fun k=>big_Right.eq_1 k a n) ?_
  by_cases c0:n≤0
  · refine Ev.done0 fun k=>?_
    rw[zav c0,show n.toNat=0 by omega,Nat.pow_zero,Nat.div_one,zBl]
  by_cases c1:256≤n
  · refine Ev.done0 fun k=>?_
    rw[zax c0,zav c1]
    refine congrArg some (zkx fun i hi=>?_)
    rw[zsc,zpg,Nat.testBit_div_two_pow,zrc _ _ (by omega),Bool.and_false,Nat.zero_testBit]
  obtain ⟨N,rfl⟩:∃ N:Nat,n=(N:Int):=⟨n.toNat,by omega⟩
  have hN:N < 256:=by omega
  refine Ev.same (fun k=>by rw[zax c0,zax c1]) ?_
  rw[Int.toNat_natCast]
  have:=Ev.inv (H:=fun k i x=>big_Right_h1 k (N:Int) i a (Vector.replicate 4 0) x) (n:=4 - N / 64) (r:=uW (uV a / 2 ^ N))
    (fun i x=>∀ j t,j < 4→t < 64→(gW x j).testBit t=(decide (j < i) && (uV a / 2 ^ N).testBit (64*j+t))) ?_ ?_ (4 - N / 64) 0 (Vector.replicate 4 0) (by omega) ?_
  · exact this
  · intro i x hi hv next
    have ed:Int.tdiv ((N:Nat):Int) 64=((N / 64:Nat):Int):=rfl
    have em:Int.tmod ((N:Nat):Int) 64=((N % 64:Nat):Int):=rfl
    have hk:w64 ((i:Int)+((N / 64:Nat):Int))=((i+N / 64:Nat):Int):=by rw[zao (by omega) (by omega)]; omega
    have hk2:w64 (((i+N / 64:Nat):Int)+1)=((i+N / 64+1:Nat):Int):=by rw[zao (by omega) (by omega)]; omega
    have hi4:i+N / 64 < 4:=by omega
    have fin:∀ w:UInt64,(∀ t,t < 64→w.toNat.testBit t=((gW a (i+N / 64)).testBit (t+N % 64) || (decide (i+N / 64+1 < 4∧N % 64≠0) && (decide (64 - N % 64≤t) && (gW a (i+N / 64+1)).testBit (t - (64 - N % 64)))))) →
        ∀ j t,j < 4→t < 64→(gW (Vector.setIfInBounds x i w) j).testBit t=(decide (j < i+1) && (uV a / 2 ^ N).testBit (64*j+t)):=by
      intro w hw j t hj ht
      rw[zqZ _ _ _ _ (by omega)]
      by_cases e:i=j
      · subst e
        rw[if_pos rfl,hw t ht,decide_eq_true (p:=i < i+1) (by omega),Bool.true_and,zDG a N i hN hi4 t ht]
      · rw[if_neg e,hv j t hj ht]
        congr 1
        rw[decide_eq_decide]; omega
    by_cases c2:i+N / 64+1 < 4∧N % 64≠0
    · refine Ev.step (fun k=>?_) (next (Vector.setIfInBounds x i (zaa (List.getD (Vector.toList a) (i+N / 64) 0) (N % 64) ||| zah (List.getD (Vector.toList a) (i+N / 64+1) 0) (64 - N % 64))) (fin _ ?_))
      · rw[big_Right_h1.eq_2,ed,zhw (a:=N / 64) (by omega),hk,hk2,zav (by omega),if_pos (by omega),if_pos (by omega),decide_eq_true (p:=((i+N / 64+1:Nat):Int) < 4) (by omega),em,decide_eq_false (p:=((N % 64:Nat):Int)=0) (by omega)]
        simp only[eqb,cond_true,Bool.not_false]
        rw[if_pos (by omega),zlz N hN,zE7 N hN,zFT,Int.toNat_natCast,zry _ _ _ (by omega),Int.toNat_natCast,Int.toNat_natCast,zao (by omega) (by omega)]
      · intro t ht
        rw[zBO,zvj _ _ _ (by omega),zwD _ _ _ (by omega),decide_eq_true ht,Bool.true_and,zfV,zfV,decide_eq_true c2,Bool.true_and]
    · refine Ev.step (fun k=>?_) (next (Vector.setIfInBounds x i (zaa (List.getD (Vector.toList a) (i+N / 64) 0) (N % 64))) (fin _ ?_))
      · rw[big_Right_h1.eq_2,ed,zhw (a:=N / 64) (by omega),hk,hk2,zav (by omega),if_pos (by omega),if_pos (by omega),em]
        by_cases c3:i+N / 64+1 < 4
        · rw[decide_eq_true (p:=((i+N / 64+1:Nat):Int) < 4) (by omega),decide_eq_true (p:=((N % 64:Nat):Int)=0) (by omega)]
          simp only[eqb,cond_true,Bool.not_true,cond_false]
          rw[zlz N hN,Int.toNat_natCast,Int.toNat_natCast,zao (by omega) (by omega)]
        · rw[decide_eq_false (p:=((i+N / 64+1:Nat):Int) < 4) (by omega)]
          simp only[eqb,cond_false]
          rw[zlz N hN,Int.toNat_natCast,Int.toNat_natCast,zao (by omega) (by omega)]
      · intro t ht
        rw[zwD _ _ _ (by omega),zfV,decide_eq_false c2,Bool.false_and,Bool.or_false]
  · intro x hv
    refine Ev.done fun k=>?_
    show big_Right_h1 (k+1) _ _ _ _ _=_
    rw[big_Right_h1.eq_2,show Int.tdiv ((N:Nat):Int) 64=((N / 64:Nat):Int)from rfl,zhw (a:=N / 64) (by omega),zao (by omega) (by omega),zax (by omega)]
    refine congrArg some (vecI fun j t hj ht=>?_)
    rw[hv j t hj ht,Nat.testBit_div_two_pow]
    by_cases c:j < 4 - N / 64
    · rw[decide_eq_true (by omega),Bool.true_and]
    · rw[decide_eq_false (by omega),zrc _ _ (by omega),Bool.false_and]
  · intro j t hj ht
    rw[zpB,decide_eq_false (by omega),Bool.false_and,Nat.zero_testBit]
end
end Go.Proofs.YtnolgfdjcipmmaaDoor.M
namespace Go.Proofs.YtnolgfdjcipmmaaDoor.M
open Go
noncomputable section
def big_Len_h0:Nat→Int→(Vector UInt64 4)→Option (Int)
  | 0,_,_=>none
  | k+1,i,a=>bif decide ((0:Int)≤i) then(if((0:Int)≤i)∧(i < (4:Int)) then
        bif !(decide ((List.getD (Vector.toList a) (Int.toNat i) (0:UInt64))=(0:UInt64))) then(some (w64 ((w64 (i*(64:Int)))+(((lenN (UInt64.toNat (List.getD (Vector.toList a) (Int.toNat i) (0:UInt64)))):Nat):Int))))
          else(big_Len_h0 k (w64 (i - (1:Int))) a)
      else none)
      else(some (0:Int))
def big_Len (k:Nat) (a:Vector UInt64 4):Option (Int) :=
  big_Len_h0 k (3:Int) a
theorem zHW (a:Vector UInt64 4) (i:Nat) (hi:i < 4) (h:∀ j,j < 4→i < j→gW a j=0):uV a / 2 ^ (64*i)=gW a i:=by
  have h0:=zh2 a 0
  have h1:=zh2 a 1
  have h2:=zh2 a 2
  have h3:=zh2 a 3
  have:i=0∨i=1∨i=2∨i=3:=by omega
  unfold uV
  rcases this with e | e | e | e<;>subst e
  · have a1:=h 1 (by omega) (by omega)
    have a2:=h 2 (by omega) (by omega)
    have a3:=h 3 (by omega) (by omega)
    show _ / 1=_
    omega
  · have a2:=h 2 (by omega) (by omega)
    have a3:=h 3 (by omega) (by omega)
    show _ / 18446744073709551616=_
    omega
  · have a3:=h 3 (by omega) (by omega)
    show _ / 340282366920938463463374607431768211456=_
    omega
  · show _ / 6277101735386680763835789423207666416102355444464034512896=_
    omega
theorem zxL (a:Vector UInt64 4):∃ k,big_Len k a=some (((lenN (uV a):Nat):Int)):=by
  show Ev (fun k=>big_Len k a) _
  refine Ev.same (fun k=>big_Len.eq_1 k a) ?_
  refine Ev.dwn (H:=fun k i (_:Unit)=>big_Len_h0 k i a) (n:=4) (fun i _=>∀ j,j < 4→i≤j→gW a j=0) ?_ ?_ 4 () (Nat.le_refl _) (fun j h1 h2=>by omega)
  · intro i _ hi hv next
    by_cases c:List.getD (Vector.toList a) i 0=0
    · refine Ev.step (fun k=>?_) (next () ?_)
      · rw[big_Len_h0.eq_2,zav (by omega),if_pos (by omega),Int.toNat_natCast,decide_eq_true c,Bool.not_true,cond_false,zao (by omega) (by omega)]
      · intro j h1 h2
        by_cases e:i=j
        · subst e; rw[←zfV,c]; rfl
        · exact hv j h1 (by omega)
    · refine Ev.done fun k=>?_
      rw[big_Len_h0.eq_2,zav (by omega),if_pos (by omega),Int.toNat_natCast,decide_eq_false c,Bool.not_false,cond_true,zfV]
      have hd:=zHW a i hi (fun j h1 h2=>hv j h1 (by omega))
      have hne:gW a i≠0:=by
        intro e
        exact c (UInt64.toNat_inj.1 e)
      have hs:=zuJ (n:=uV a) (64*i) (by rw[hd]; exact hne)
      rw[hd]at hs
      have hl:lenN (gW a i)≤64:=zcJ.2 (zh2 a i)
      rw[hs,zao (x:=(i:Int)*64) (by omega) (by omega),zao (by omega) (by omega)]
      refine congrArg some ?_
      omega
  · intro _ hv
    refine Ev.done fun k=>?_
    rw[big_Len_h0.eq_2,zax (by omega)]
    have:uV a=0:=by
      unfold uV
      rw[hv 0 (by omega) (by omega),hv 1 (by omega) (by omega),hv 2 (by omega) (by omega),hv 3 (by omega) (by omega)]
    rw[this,zzf]
    rfl
end
end Go.Proofs.YtnolgfdjcipmmaaDoor.M
namespace Go.Proofs.YtnolgfdjcipmmaaDoor.M
open Go
noncomputable section
def big_Left_h1:Nat→Int→Int→(Vector UInt64 4)→(Vector UInt64 4)→(Vector UInt64 4)→Option (Vector UInt64 4)
  | 0,_,_,_,_,_=>none
  | k+1,n,i,a,t4,x_=>bif decide ((w64 (Int.tdiv n (64:Int)))≤i) then(if((0:Int)≤(w64 (i - (w64 (Int.tdiv n (64:Int))))))∧((w64 (i - (w64 (Int.tdiv n (64:Int))))) < (4:Int)) then
        if(
            (0:Int)≤i)∧(i < (4:Int)) then
          bif eqb (decide ((0:Int) < (w64 (i - (w64 (Int.tdiv n (64:Int))))))) true then(bif bif true then(!(decide ((Int.tmod n (64:Int))=(0:Int))))else false then(if((0:Int)≤(w64 ((w64 (i - (w64 (Int.tdiv n (64:Int))))) - (1:Int))))∧((w64 ((w64 (i - (w64 (Int.tdiv n (64:Int))))) - (1:Int))) < (4:Int)) then
                big_Left_h1 k n (w64 (i - (1:Int))) a t4 (Vector.setIfInBounds (Vector.setIfInBounds x_ (Int.toNat i) (zah (List.getD (Vector.toList a) (Int.toNat (w64 (i - (w64 (Int.tdiv n (64:Int)))))) (0:UInt64)) (UInt64.toNat ((UInt64.ofInt n) % (64:UInt64))))) (Int.toNat i) ((List.getD (Vector.toList (Vector.setIfInBounds x_ (Int.toNat i) (zah (List.getD (Vector.toList a) (Int.toNat (w64 (i - (w64 (Int.tdiv n (64:Int)))))) (0:UInt64)) (UInt64.toNat ((UInt64.ofInt n) % (64:UInt64)))))) (Int.toNat i) (0:UInt64)) ||| (zaa (List.getD (Vector.toList a) (Int.toNat (w64 ((w64 (i - (w64 (Int.tdiv n (64:Int))))) - (1:Int)))) (0:UInt64)) (UInt64.toNat ((64:UInt64) - ((UInt64.ofInt n) % (64:UInt64)))))))
              else none)
              else(big_Left_h1 k n (w64 (i - (1:Int))) a t4 (Vector.setIfInBounds x_ (Int.toNat i) (zah (List.getD (Vector.toList a) (Int.toNat (w64 (i - (w64 (Int.tdiv n (64:Int)))))) (0:UInt64)) (UInt64.toNat ((UInt64.ofInt n) % (64:UInt64)))))))
            else(big_Left_h1 k n (w64 (i - (1:Int))) a t4 (Vector.setIfInBounds x_ (Int.toNat i) (zah (List.getD (Vector.toList a) (Int.toNat (w64 (i - (w64 (Int.tdiv n (64:Int)))))) (0:UInt64)) (UInt64.toNat ((UInt64.ofInt n) % (64:UInt64))))))
        else none
      else none)
      else(some x_)
def big_Left (k:Nat) (a:Vector UInt64 4) (n:Int):Option (Vector UInt64 4) :=
  bif decide (n≤(0:Int)) then(some a)
    else(bif decide ((256:Int)≤n) then(some (Vector.replicate 4 (0:UInt64)))
      else(big_Left_h1 k n (3:Int) a (Vector.replicate 4 (0:UInt64)) (Vector.replicate 4 (0:UInt64))))
theorem zv9 (a:Vector UInt64 4) (n:Int) (h:-9223372036854775808≤n∧n < 9223372036854775808):∃ k,big_Left k a n=some (uW (uV a*2 ^ n.toNat)):=by
  show Ev (fun k=>big_Left k a n) _
  refine Ev.same (fun k=>big_Left.eq_1 k a n) ?_
  by_cases c0:n≤0
  · refine Ev.done0 fun k=>?_
    rw[zav c0,show n.toNat=0 by omega,Nat.pow_zero,Nat.mul_one,zBl]
  by_cases c1:256≤n
  · refine Ev.done0 fun k=>?_
    rw[zax c0,zav c1]
    refine congrArg some (zkx fun i hi=>?_)
    rw[zsc,zpg,Nat.testBit_mul_two_pow,decide_eq_false (p:=n.toNat≤i) (by omega),Bool.false_and,Bool.and_false,Nat.zero_testBit]
  obtain ⟨N,rfl⟩:∃ N:Nat,n=(N:Int):=⟨n.toNat,by omega⟩
  have hN:N < 256:=by omega
  refine Ev.same (fun k=>by rw[zax c0,zax c1]) ?_
  rw[Int.toNat_natCast]
  have:=Ev.dwn (H:=fun k i x=>big_Left_h1 k (N:Int) (i+((N / 64:Nat):Int)) a (Vector.replicate 4 0) x) (n:=4 - N / 64) (r:=uW (uV a*2 ^ N))
    (fun i x=>∀ j t,j < 4→t < 64→(gW x j).testBit t=(decide (i+N / 64≤j) && (uV a*2 ^ N).testBit (64*j+t))) ?_ ?_ (4 - N / 64) (Vector.replicate 4 0) (Nat.le_refl _) ?_
  · rw[show ((4 - N / 64:Nat):Int) - 1+((N / 64:Nat):Int)=3 by omega]at this
    exact this
  · intro i x hi hv next
    have ed:Int.tdiv ((N:Nat):Int) 64=((N / 64:Nat):Int):=rfl
    have em:Int.tmod ((N:Nat):Int) 64=((N % 64:Nat):Int):=rfl
    have hk:w64 (((i:Int)+((N / 64:Nat):Int)) - ((N / 64:Nat):Int))=(i:Int):=by rw[zao (by omega) (by omega)]; omega
    have hi4:i+N / 64 < 4:=by omega
    have et:Int.toNat ((i:Int)+((N / 64:Nat):Int))=i+N / 64:=by omega
    have fin:∀ w:UInt64,(∀ t,t < 64→w.toNat.testBit t=((decide (N % 64≤t) && (gW a i).testBit (t - N % 64)) || (decide (0 < i∧N % 64≠0) && (gW a (i - 1)).testBit (t+(64 - N % 64))))) →
        ∀ j t,j < 4→t < 64→(gW (Vector.setIfInBounds x (i+N / 64) w) j).testBit t=(decide (i+N / 64≤j) && (uV a*2 ^ N).testBit (64*j+t)):=by
      intro w hw j t hj ht
      rw[zqZ _ _ _ _ hi4]
      by_cases e:i+N / 64=j
      · subst e
        have:=zFK a N (i+N / 64) hN hj (by omega) t ht
        rw[show i+N / 64 - N / 64=i by omega]at this
        rw[if_pos rfl,hw t ht,decide_eq_true (Nat.le_refl _),Bool.true_and,this]
      · rw[if_neg e,hv j t hj ht]
        congr 1
        rw[decide_eq_decide]; omega
    by_cases c2:0 < i∧N % 64≠0
    · refine Ev.step (fun k=>?_) (next (Vector.setIfInBounds x (i+N / 64) (zah (List.getD (Vector.toList a) i 0) (N % 64) ||| zaa (List.getD (Vector.toList a) (i - 1) 0) (64 - N % 64))) (fin _ ?_))
      · rw[big_Left_h1.eq_2,ed,zhw (a:=N / 64) (by omega),zav (by omega),hk,if_pos (by omega),if_pos (by omega),decide_eq_true (p:=(0:Int) < (i:Int)) (by omega),em,decide_eq_false (p:=((N % 64:Nat):Int)=0) (by omega)]
        simp only[eqb,cond_true,Bool.not_false]
        rw[zao (x:=(i:Int) - 1) (by omega) (by omega),if_pos (by omega),zlz N hN,zE7 N hN,et,zFT,zry _ _ _ (by omega),Int.toNat_natCast,show Int.toNat ((i:Int) - 1)=i - 1 by omega,zao (by omega) (by omega),show (i:Int)+((N / 64:Nat):Int) - 1=(i:Int) - 1+((N / 64:Nat):Int) by omega]
      · intro t ht
        rw[zBO,zvj _ _ _ (by omega),zwD _ _ _ (by omega),decide_eq_true ht,Bool.true_and,zfV,zfV,decide_eq_true c2,Bool.true_and]
    · refine Ev.step (fun k=>?_) (next (Vector.setIfInBounds x (i+N / 64) (zah (List.getD (Vector.toList a) i 0) (N % 64))) (fin _ ?_))
      · rw[big_Left_h1.eq_2,ed,zhw (a:=N / 64) (by omega),zav (by omega),hk,if_pos (by omega),if_pos (by omega),em]
        by_cases c3:0 < i
        · rw[decide_eq_true (p:=(0:Int) < (i:Int)) (by omega),decide_eq_true (p:=((N % 64:Nat):Int)=0) (by omega)]
          simp only[eqb,cond_true,Bool.not_true,cond_false]
          rw[zlz N hN,et,Int.toNat_natCast,zao (by omega) (by omega),show (i:Int)+((N / 64:Nat):Int) - 1=(i:Int) - 1+((N / 64:Nat):Int) by omega]
        · rw[decide_eq_false (p:=(0:Int) < (i:Int)) (by omega)]
          simp only[eqb,cond_false]
          rw[zlz N hN,et,Int.toNat_natCast,zao (by omega) (by omega),show (i:Int)+((N / 64:Nat):Int) - 1=(i:Int) - 1+((N / 64:Nat):Int) by omega]
      · intro t ht
        rw[zvj _ _ _ (by omega),decide_eq_true ht,Bool.true_and,zfV,decide_eq_false c2,Bool.false_and,Bool.or_false]
  · intro x hv
    refine Ev.done fun k=>?_
    show big_Left_h1 (k+1) _ _ _ _ _=_
    rw[big_Left_h1.eq_2,show Int.tdiv ((N:Nat):Int) 64=((N / 64:Nat):Int)from rfl,zhw (a:=N / 64) (by omega),zax (by omega)]
    refine congrArg some (vecI fun j t hj ht=>?_)
    rw[hv j t hj ht,Nat.testBit_mul_two_pow]
    by_cases c:N / 64≤j
    · rw[decide_eq_true (by omega),Bool.true_and]
    · rw[decide_eq_false (by omega),decide_eq_false (by omega),Bool.false_and,Bool.false_and]
  · intro j t hj ht
    rw[zpB,decide_eq_false (by omega),Bool.false_and,Nat.zero_testBit]
end
end Go.Proofs.YtnolgfdjcipmmaaDoor.M
namespace Go.Proofs.YtnolgfdjcipmmaaDoor.M
open Go
noncomputable section
def big_Add_h0:Nat→UInt64→Int→(Vector UInt64 4)→(Vector UInt64 4)→(Vector UInt64 4)→Option (Vector UInt64 4 × Bool)
  | 0,_,_,_,_,_=>none
  | k+1,c,t8,a,b,t4=>bif decide (t8 < (4:Int)) then(if((0:Int)≤t8)∧(t8 < (4:Int)) then
        if(UInt64.toNat c)≤(1:Nat) then
          big_Add_h0 k (zhu (List.getD (Vector.toList a) (Int.toNat t8) (0:UInt64)) (List.getD (Vector.toList b) (Int.toNat t8) (0:UInt64)) c) (w64 (t8+(1:Int))) (Vector.setIfInBounds a (Int.toNat t8) (((List.getD (Vector.toList a) (Int.toNat t8) (0:UInt64))+(List.getD (Vector.toList b) (Int.toNat t8) (0:UInt64)))+c)) b t4
        else none
      else none)
      else(some (a,(!(decide (c=(0:UInt64))))))
def big_Add (k:Nat) (a:Vector UInt64 4) (b:Vector UInt64 4):Option (Vector UInt64 4 × Bool) :=
  big_Add_h0 k (0:UInt64) (0:Int) a b (Vector.replicate 4 (0:UInt64))
theorem zxc (a b:Vector UInt64 4):∃ k,big_Add k a b=some (addS a b):=by
  show Ev (fun k=>big_Add k a b) _
  refine Ev.same (fun k=>big_Add.eq_1 k a b) ?_
  have st:∀ (i:Nat),i < 4→∀ (c:UInt64) (v:Vector UInt64 4),c.toNat≤1→∀ f,big_Add_h0 (f+1) c (i:Int) v b (Vector.replicate 4 0) =
      big_Add_h0 f (zhu (List.getD (Vector.toList v) i 0) (List.getD (Vector.toList b) i 0) c) ((i:Int)+1) (Vector.setIfInBounds v i (List.getD (Vector.toList v) i 0+List.getD (Vector.toList b) i 0+c)) b (Vector.replicate 4 0):=by
    intro i hi c v hc f
    rw[big_Add_h0.eq_2,zav (by omega),if_pos (by omega),if_pos hc,Int.toNat_natCast,zao (by omega) (by omega)]
  have hv:∀ x y c:UInt64,c.toNat≤1→(zhu x y c).toNat=(x.toNat+y.toNat+c.toNat) / 18446744073709551616:=by
    intro x y c hc
    have:=x.toNat_lt
    have:=y.toNat_lt
    unfold zhu
    rw[UInt64.toNat_ofNat']; omega
  have hs:∀ x y c:UInt64,(x+y+c).toNat=(x.toNat+y.toNat+c.toNat) % 18446744073709551616:=by
    intro x y c
    rw[UInt64.toNat_add,UInt64.toNat_add]; omega
  have c1:∀ x y c:UInt64,c.toNat≤1→(zhu x y c).toNat≤1:=by
    intro x y c hc
    have:=x.toNat_lt
    have:=y.toNat_lt
    rw[hv x y c hc]; omega
  let x0:=List.getD (Vector.toList a) 0 0
  let x1:=List.getD (Vector.toList a) 1 0
  let x2:=List.getD (Vector.toList a) 2 0
  let x3:=List.getD (Vector.toList a) 3 0
  let y0:=List.getD (Vector.toList b) 0 0
  let y1:=List.getD (Vector.toList b) 1 0
  let y2:=List.getD (Vector.toList b) 2 0
  let y3:=List.getD (Vector.toList b) 3 0
  let k1:=zhu x0 y0 0
  let k2:=zhu x1 y1 k1
  let k3:=zhu x2 y2 k2
  let k4:=zhu x3 y3 k3
  have z0:(0:UInt64).toNat≤1:=by decide
  have z1:=c1 x0 y0 0 z0
  have z2:=c1 x1 y1 k1 z1
  have z3:=c1 x2 y2 k2 z2
  let v1:=Vector.setIfInBounds a 0 (x0+y0+0)
  let v2:=Vector.setIfInBounds v1 1 (x1+y1+k1)
  let v3:=Vector.setIfInBounds v2 2 (x2+y2+k2)
  let v4:=Vector.setIfInBounds v3 3 (x3+y3+k3)
  have g1:List.getD (Vector.toList v1) 1 0=x1:=by rw[zaC _ _ _ _ _ (by omega),if_neg (by omega)]
  have g2:List.getD (Vector.toList v2) 2 0=x2:=by rw[zaC _ _ _ _ _ (by omega),if_neg (by omega),zaC _ _ _ _ _ (by omega),if_neg (by omega)]
  have g3:List.getD (Vector.toList v3) 3 0=x3:=by rw[zaC _ _ _ _ _ (by omega),if_neg (by omega),zaC _ _ _ _ _ (by omega),if_neg (by omega),zaC _ _ _ _ _ (by omega),if_neg (by omega)]
  refine Ev.step (fun f=>st 0 (by omega) 0 a z0 f) (Ev.step (fun f=>st 1 (by omega) k1 v1 z1 f) ?_)
  rw[g1]
  refine Ev.step (fun f=>st 2 (by omega) k2 v2 z2 f) ?_
  rw[g2]
  refine Ev.step (fun f=>st 3 (by omega) k3 v3 z3 f) ?_
  rw[g3]
  refine Ev.done fun f=>?_
  show big_Add_h0 (f+1) k4 _ v4 b (Vector.replicate 4 0)=_
  rw[big_Add_h0.eq_2,zax (by omega)]
  have hx:uV a=x0.toNat+18446744073709551616*(x1.toNat+18446744073709551616*(x2.toNat+18446744073709551616*x3.toNat)):=rfl
  have hy:uV b=y0.toNat+18446744073709551616*(y1.toNat+18446744073709551616*(y2.toNat+18446744073709551616*y3.toNat)):=rfl
  have w0:gW v4 0=(x0+y0+0).toNat:=by unfold gW; rw[zaC _ _ _ _ _ (by omega),if_neg (by omega),zaC _ _ _ _ _ (by omega),if_neg (by omega),zaC _ _ _ _ _ (by omega),if_neg (by omega),zaC _ _ _ _ _ (by omega),if_pos rfl]
  have w1:gW v4 1=(x1+y1+k1).toNat:=by unfold gW; rw[zaC _ _ _ _ _ (by omega),if_neg (by omega),zaC _ _ _ _ _ (by omega),if_neg (by omega),zaC _ _ _ _ _ (by omega),if_pos rfl]
  have w2:gW v4 2=(x2+y2+k2).toNat:=by unfold gW; rw[zaC _ _ _ _ _ (by omega),if_neg (by omega),zaC _ _ _ _ _ (by omega),if_pos rfl]
  have w3:gW v4 3=(x3+y3+k3).toNat:=by unfold gW; rw[zaC _ _ _ _ _ (by omega),if_pos rfl]
  have e1:k1.toNat=_:=hv x0 y0 0 z0
  have e2:k2.toNat=_:=hv x1 y1 k1 z1
  have e3:k3.toNat=_:=hv x2 y2 k2 z2
  have e4:k4.toNat=_:=hv x3 y3 k3 z3
  rw[hs]at w0 w1 w2 w3
  rw[show (0:UInt64).toNat=0 from rfl]at w0 e1
  have lx0:=x0.toNat_lt
  have lx1:=x1.toNat_lt
  have lx2:=x2.toNat_lt
  have lx3:=x3.toNat_lt
  have ly0:=y0.toNat_lt
  have ly1:=y1.toNat_lt
  have ly2:=y2.toNat_lt
  have ly3:=y3.toNat_lt
  have hval:uV v4+115792089237316195423570985008687907853269984665640564039457584007913129639936*k4.toNat=uV a+uV b:=by
    rw[hx,hy]
    unfold uV
    rw[w0,w1,w2,w3]
    generalize x0.toNat=a0 at *
    generalize x1.toNat=a1 at *
    generalize x2.toNat=a2 at *
    generalize x3.toNat=a3 at *
    generalize y0.toNat=b0 at *
    generalize y1.toNat=b1 at *
    generalize y2.toNat=b2 at *
    generalize y3.toNat=b3 at *
    generalize k1.toNat=n1 at *
    generalize k2.toNat=n2 at *
    generalize k3.toNat=n3 at *
    generalize k4.toNat=n4 at *
    omega
  have hlt:=znt v4
  have hk4:(k4=0)↔k4.toNat=0:=by rw[←UInt64.toNat_inj]; rfl
  unfold addS
  refine congrArg some (Prod.ext (zuw ?_) ?_)
  · rw[zhJ]
    show uV v4=_
    omega
  · show (!decide (k4=0))=decide _
    rw[←decide_not,decide_eq_decide,hk4]
    omega
theorem zyE (a b:Vector UInt64 4):∃ k,big_Add k a b=some (addV a b,addB a b):=by
  rw[←zG9]
  exact zxc a b
end
end Go.Proofs.YtnolgfdjcipmmaaDoor.M
namespace Go.Proofs.YtnolgfdjcipmmaaDoor.M
open Go
noncomputable section
def big_Sub_h0:Nat→UInt64→Int→(Vector UInt64 4)→(Vector UInt64 4)→(Vector UInt64 4)→Option (Vector UInt64 4 × Bool)
  | 0,_,_,_,_,_=>none
  | k+1,c,t8,a,b,t4=>bif decide (t8 < (4:Int)) then(if((0:Int)≤t8)∧(t8 < (4:Int)) then
        if(UInt64.toNat c)≤(1:Nat) then
          big_Sub_h0 k (zmp (List.getD (Vector.toList a) (Int.toNat t8) (0:UInt64)) (List.getD (Vector.toList b) (Int.toNat t8) (0:UInt64)) c) (w64 (t8+(1:Int))) (Vector.setIfInBounds a (Int.toNat t8) (((List.getD (Vector.toList a) (Int.toNat t8) (0:UInt64)) - (List.getD (Vector.toList b) (Int.toNat t8) (0:UInt64))) - c)) b t4
        else none
      else none)
      else(some (a,(!(decide (c=(0:UInt64))))))
def big_Sub (k:Nat) (a:Vector UInt64 4) (b:Vector UInt64 4):Option (Vector UInt64 4 × Bool) :=
  big_Sub_h0 k (0:UInt64) (0:Int) a b (Vector.replicate 4 (0:UInt64))
theorem zHG {v A B k:Nat} (h:115792089237316195423570985008687907853269984665640564039457584007913129639936*k+A=v+B) (h1:v < 115792089237316195423570985008687907853269984665640564039457584007913129639936) (h2:A < 115792089237316195423570985008687907853269984665640564039457584007913129639936) (h3:B < 115792089237316195423570985008687907853269984665640564039457584007913129639936) :
    v=(A+115792089237316195423570985008687907853269984665640564039457584007913129639936 - B) % 115792089237316195423570985008687907853269984665640564039457584007913129639936∧(¬ k=0↔A < B):=by
  omega
theorem sub4 (g0 g1 g2 g3 x0 x1 x2 x3 y0 y1 y2 y3 k1 k2 k3 k4:Nat) (e1:g0+y0+0=x0+18446744073709551616*k1) (e2:g1+y1+k1=x1+18446744073709551616*k2) (e3:g2+y2+k2=x2+18446744073709551616*k3) (e4:g3+y3+k3=x3+18446744073709551616*k4) :
    115792089237316195423570985008687907853269984665640564039457584007913129639936*k4+(x0+18446744073709551616*(x1+18446744073709551616*(x2+18446744073709551616*x3)))=(g0+18446744073709551616*(g1+18446744073709551616*(g2+18446744073709551616*g3)))+(y0+18446744073709551616*(y1+18446744073709551616*(y2+18446744073709551616*y3))):=by
  omega
theorem zvx (a b:Vector UInt64 4):∃ k,big_Sub k a b=some (subS a b):=by
  show Ev (fun k=>big_Sub k a b) _
  refine Ev.same (fun k=>big_Sub.eq_1 k a b) ?_
  have st:∀ (i:Nat),i < 4→∀ (c:UInt64) (v:Vector UInt64 4),c.toNat≤1→∀ f,big_Sub_h0 (f+1) c (i:Int) v b (Vector.replicate 4 0) =
      big_Sub_h0 f (zmp (List.getD (Vector.toList v) i 0) (List.getD (Vector.toList b) i 0) c) ((i:Int)+1) (Vector.setIfInBounds v i (List.getD (Vector.toList v) i 0 - List.getD (Vector.toList b) i 0 - c)) b (Vector.replicate 4 0):=by
    intro i hi c v hc f
    rw[big_Sub_h0.eq_2,zav (by omega),if_pos (by omega),if_pos hc,Int.toNat_natCast,zao (by omega) (by omega)]
  have hv:∀ x y c:UInt64,c.toNat≤1→(zmp x y c).toNat=if x.toNat < y.toNat+c.toNat then 1 else 0:=by
    intro x y c hc
    unfold zmp
    split<;>rfl
  have hs:∀ x y c:UInt64,(x - y - c).toNat=(x.toNat+36893488147419103232 - y.toNat - c.toNat) % 18446744073709551616:=by
    intro x y c
    have:=x.toNat_lt
    have:=y.toNat_lt
    have:=c.toNat_lt
    rw[UInt64.toNat_sub,UInt64.toNat_sub]; omega
  have c1:∀ x y c:UInt64,c.toNat≤1→(zmp x y c).toNat≤1:=by
    intro x y c hc
    have:=x.toNat_lt
    have:=y.toNat_lt
    rw[hv x y c hc]; split<;>omega
  let x0:=List.getD (Vector.toList a) 0 0
  let x1:=List.getD (Vector.toList a) 1 0
  let x2:=List.getD (Vector.toList a) 2 0
  let x3:=List.getD (Vector.toList a) 3 0
  let y0:=List.getD (Vector.toList b) 0 0
  let y1:=List.getD (Vector.toList b) 1 0
  let y2:=List.getD (Vector.toList b) 2 0
  let y3:=List.getD (Vector.toList b) 3 0
  let k1:=zmp x0 y0 0
  let k2:=zmp x1 y1 k1
  let k3:=zmp x2 y2 k2
  let k4:=zmp x3 y3 k3
  have z0:(0:UInt64).toNat≤1:=by decide
  have z1:=c1 x0 y0 0 z0
  have z2:=c1 x1 y1 k1 z1
  have z3:=c1 x2 y2 k2 z2
  let v1:=Vector.setIfInBounds a 0 (x0 - y0 - 0)
  let v2:=Vector.setIfInBounds v1 1 (x1 - y1 - k1)
  let v3:=Vector.setIfInBounds v2 2 (x2 - y2 - k2)
  let v4:=Vector.setIfInBounds v3 3 (x3 - y3 - k3)
  have g1:List.getD (Vector.toList v1) 1 0=x1:=by rw[zaC _ _ _ _ _ (by omega),if_neg (by omega)]
  have g2:List.getD (Vector.toList v2) 2 0=x2:=by rw[zaC _ _ _ _ _ (by omega),if_neg (by omega),zaC _ _ _ _ _ (by omega),if_neg (by omega)]
  have g3:List.getD (Vector.toList v3) 3 0=x3:=by rw[zaC _ _ _ _ _ (by omega),if_neg (by omega),zaC _ _ _ _ _ (by omega),if_neg (by omega),zaC _ _ _ _ _ (by omega),if_neg (by omega)]
  refine Ev.step (fun f=>st 0 (by omega) 0 a z0 f) (Ev.step (fun f=>st 1 (by omega) k1 v1 z1 f) ?_)
  rw[g1]
  refine Ev.step (fun f=>st 2 (by omega) k2 v2 z2 f) ?_
  rw[g2]
  refine Ev.step (fun f=>st 3 (by omega) k3 v3 z3 f) ?_
  rw[g3]
  refine Ev.done fun f=>?_
  show big_Sub_h0 (f+1) k4 _ v4 b (Vector.replicate 4 0)=_
  rw[big_Sub_h0.eq_2,zax (by omega)]
  have w0:gW v4 0=(x0 - y0 - 0).toNat:=by unfold gW; rw[zaC _ _ _ _ _ (by omega),if_neg (by omega),zaC _ _ _ _ _ (by omega),if_neg (by omega),zaC _ _ _ _ _ (by omega),if_neg (by omega),zaC _ _ _ _ _ (by omega),if_pos rfl]
  have w1:gW v4 1=(x1 - y1 - k1).toNat:=by unfold gW; rw[zaC _ _ _ _ _ (by omega),if_neg (by omega),zaC _ _ _ _ _ (by omega),if_neg (by omega),zaC _ _ _ _ _ (by omega),if_pos rfl]
  have w2:gW v4 2=(x2 - y2 - k2).toNat:=by unfold gW; rw[zaC _ _ _ _ _ (by omega),if_neg (by omega),zaC _ _ _ _ _ (by omega),if_pos rfl]
  have w3:gW v4 3=(x3 - y3 - k3).toNat:=by unfold gW; rw[zaC _ _ _ _ _ (by omega),if_pos rfl]
  have word:∀ x y c:UInt64,c.toNat≤1→(x - y - c).toNat+y.toNat+c.toNat=x.toNat+18446744073709551616*(zmp x y c).toNat:=by
    intro x y c hc
    have lx:=x.toNat_lt
    have ly:=y.toNat_lt
    rw[hs,hv x y c hc]
    split<;>omega
  have e1:=word x0 y0 0 z0
  have e2:=word x1 y1 k1 z1
  have e3:=word x2 y2 k2 z2
  have e4:=word x3 y3 k3 z3
  rw[←w0,show (0:UInt64).toNat=0 from rfl]at e1
  rw[←w1]at e2
  rw[←w2]at e3
  rw[←w3]at e4
  have hval:115792089237316195423570985008687907853269984665640564039457584007913129639936*k4.toNat+uV a=uV v4+uV b:=sub4 (gW v4 0) (gW v4 1) (gW v4 2) (gW v4 3) x0.toNat x1.toNat x2.toNat x3.toNat y0.toNat y1.toNat y2.toNat y3.toNat k1.toNat k2.toNat k3.toNat k4.toNat e1 e2 e3 e4
  have hlt:=znt v4
  have hla:=znt a
  have hlb:=znt b
  have hk4:(k4=0)↔k4.toNat=0:=by rw[←UInt64.toNat_inj]; rfl
  have r:=@zHG (uV v4) (uV a) (uV b) k4.toNat hval hlt hla hlb
  have fin:∀ (v:Vector UInt64 4) (k:UInt64),((k=0)↔k.toNat=0)→(uV v=(uV a+115792089237316195423570985008687907853269984665640564039457584007913129639936 - uV b) % 115792089237316195423570985008687907853269984665640564039457584007913129639936∧(¬ k.toNat=0↔uV a < uV b))→(v,!decide (k=0))=subS a b:=by
    intro v k hk r
    unfold subS
    refine Prod.ext (zuw ?_) ?_
    · show uV v=uV (uW _)
      rw[zhJ]
      exact r.1
    · show (!decide (k=0))=decide _
      rw[←decide_not,decide_eq_decide,hk]
      exact r.2
  exact congrArg some (fin v4 k4 hk4 r)
theorem zxV (a b:Vector UInt64 4):∃ k,big_Sub k a b=some (subV a b,subB a b):=by
  rw[zEw,zrp]
  exact zvx a b
end
end Go.Proofs.YtnolgfdjcipmmaaDoor.M
namespace Go.Proofs.YtnolgfdjcipmmaaDoor.M
open Go
noncomputable section
def big_bit (a:Vector UInt64 4) (n:Int):Option (Bool) :=
  if((0:Int)≤(w64 (Int.tdiv n (64:Int))))∧((w64 (Int.tdiv n (64:Int))) < (4:Int)) then
    some (!(decide (((zaa (List.getD (Vector.toList a) (Int.toNat (w64 (Int.tdiv n (64:Int)))) (0:UInt64)) (UInt64.toNat ((UInt64.ofInt n) % (64:UInt64)))) &&& (1:UInt64))=(0:UInt64))))
  else none
theorem zzN (a:Vector UInt64 4) (n:Int) (h:0≤n∧n < 256):big_bit a n=some ((uV a).testBit n.toNat):=by
  obtain ⟨N,rfl⟩:∃ N:Nat,n=(N:Int):=⟨n.toNat,by omega⟩
  have hN:N < 256:=by omega
  rw[big_bit,show Int.tdiv ((N:Nat):Int) 64=((N / 64:Nat):Int)from rfl,zhw (by omega),if_pos (by omega),zlz N hN,Int.toNat_natCast,Int.toNat_natCast,zue a N hN]
  refine congrArg some ?_
  have e:=zwD (List.getD (Vector.toList a) (N / 64) 0) (N % 64) 0 (by omega)
  rw[Nat.zero_add,zfV]at e
  rw[←e,←decide_not,Nat.testBit_zero,decide_eq_decide,←UInt64.toNat_inj,UInt64.toNat_and,show (1:UInt64).toNat=1 from rfl,Nat.and_one_is_mod,show (0:UInt64).toNat=0 from rfl]
  omega
end
end Go.Proofs.YtnolgfdjcipmmaaDoor.M
namespace Go.Proofs.YtnolgfdjcipmmaaDoor.M
open Go
noncomputable section
def big_Over_h0:Nat→Int→(Vector UInt64 4)→(Vector UInt64 4)→(Vector UInt64 4)→(Vector UInt64 4)→Option (Vector UInt64 4 × Vector UInt64 4 × Int)
  | 0,_,_,_,_,_=>none
  | k+1,n,a,b,q,r_=>bif decide ((0:Int)≤n) then(if((0:Int)≤n)∧(n < (256:Int)) then
        bif Nat.testBit (uV a) (Int.toNat n) then(bif eqb (Nat.testBit (uV r_) (255:Nat)) false then(bif bif false then true else(!(subB (Vector.setIfInBounds (uW ((uV r_)*((2:Nat) ^ (1:Nat)))) (0:Nat) ((List.getD (Vector.toList (uW ((uV r_)*((2:Nat) ^ (1:Nat))))) (0:Nat) (0:UInt64)) ||| (1:UInt64))) b)) then(if((0:Int)≤(w64 (Int.tdiv n (64:Int))))∧((w64 (Int.tdiv n (64:Int))) < (4:Int)) then
                big_Over_h0 k (w64 (n - (1:Int))) a b (Vector.setIfInBounds q (Int.toNat (w64 (Int.tdiv n (64:Int)))) ((List.getD (Vector.toList q) (Int.toNat (w64 (Int.tdiv n (64:Int)))) (0:UInt64)) ||| (zah (1:UInt64) (UInt64.toNat ((UInt64.ofInt n) % (64:UInt64)))))) (subV (Vector.setIfInBounds (uW ((uV r_)*((2:Nat) ^ (1:Nat)))) (0:Nat) ((List.getD (Vector.toList (uW ((uV r_)*((2:Nat) ^ (1:Nat))))) (0:Nat) (0:UInt64)) ||| (1:UInt64))) b)
              else none)
              else(big_Over_h0 k (w64 (n - (1:Int))) a b q (Vector.setIfInBounds (uW ((uV r_)*((2:Nat) ^ (1:Nat)))) (0:Nat) ((List.getD (Vector.toList (uW ((uV r_)*((2:Nat) ^ (1:Nat))))) (0:Nat) (0:UInt64)) ||| (1:UInt64)))))
            else(if((0:Int)≤(w64 (Int.tdiv n (64:Int))))∧((w64 (Int.tdiv n (64:Int))) < (4:Int)) then
              big_Over_h0 k (w64 (n - (1:Int))) a b (Vector.setIfInBounds q (Int.toNat (w64 (Int.tdiv n (64:Int)))) ((List.getD (Vector.toList q) (Int.toNat (w64 (Int.tdiv n (64:Int)))) (0:UInt64)) ||| (zah (1:UInt64) (UInt64.toNat ((UInt64.ofInt n) % (64:UInt64)))))) (subV (Vector.setIfInBounds (uW ((uV r_)*((2:Nat) ^ (1:Nat)))) (0:Nat) ((List.getD (Vector.toList (uW ((uV r_)*((2:Nat) ^ (1:Nat))))) (0:Nat) (0:UInt64)) ||| (1:UInt64))) b)
            else none))
          else(
                bif eqb (Nat.testBit (uV r_) (255:Nat)) false then(bif bif false then true else(!(subB (uW ((uV r_)*((2:Nat) ^ (1:Nat)))) b)) then(if((0:Int)≤(w64 (Int.tdiv n (64:Int))))∧((w64 (Int.tdiv n (64:Int))) < (4:Int)) then
                big_Over_h0 k (w64 (n - (1:Int))) a b (Vector.setIfInBounds q (Int.toNat (w64 (Int.tdiv n (64:Int)))) ((List.getD (Vector.toList q) (Int.toNat (w64 (Int.tdiv n (64:Int)))) (0:UInt64)) ||| (zah (1:UInt64) (UInt64.toNat ((UInt64.ofInt n) % (64:UInt64)))))) (subV (uW ((uV r_)*((2:Nat) ^ (1:Nat)))) b)
              else none)
              else(big_Over_h0 k (w64 (n - (1:Int))) a b q (uW ((uV r_)*((2:Nat) ^ (1:Nat))))))
            else(if((0:Int)≤(w64 (Int.tdiv n (64:Int))))∧((w64 (Int.tdiv n (64:Int))) < (4:Int)) then
              big_Over_h0 k (w64 (n - (1:Int))) a b (Vector.setIfInBounds q (Int.toNat (w64 (Int.tdiv n (64:Int)))) ((List.getD (Vector.toList q) (Int.toNat (w64 (Int.tdiv n (64:Int)))) (0:UInt64)) ||| (zah (1:UInt64) (UInt64.toNat ((UInt64.ofInt n) % (64:UInt64)))))) (subV (uW ((uV r_)*((2:Nat) ^ (1:Nat)))) b)
            else none))
      else none)
      else(some (q,r_,(0:Int)))
def big_Over (k:Nat) (a:Vector UInt64 4) (b:Vector UInt64 4):Option (Vector UInt64 4 × Vector UInt64 4 × Int) :=
  bif decide ((Vector.toList b)=(Vector.toList (Vector.replicate 4 (0:UInt64)))) then(some ((Vector.replicate 4 (0:UInt64)),(Vector.replicate 4 (0:UInt64)),(2:Int)))
    else(big_Over_h0 k (w64 ((((lenN (uV a)):Nat):Int) - (1:Int))) a b (Vector.replicate 4 (0:UInt64)) (Vector.replicate 4 (0:UInt64)))
theorem zxh (a b:Vector UInt64 4):∃ k,big_Over k a b=some (ovQ a b,ovR a b,ovE b):=by
  show Ev (fun k=>big_Over k a b) _
  refine Ev.same (fun k=>big_Over.eq_1 k a b) ?_
  by_cases c0:Vector.toList b=Vector.toList (Vector.replicate 4 0)
  · refine Ev.done0 fun k=>?_
    rw[zav c0]
    rw[zvW]at c0
    rw[zEW,zG2,zGV]
    rw[c0,if_pos rfl,if_pos rfl,Nat.div_zero]
    rfl
  refine Ev.same (fun k=>zax c0) ?_
  rw[zvW]at c0
  have hB:0 < uV b:=by omega
  have hL:lenN (uV a)≤256:=zcJ.2 (by rw[zo7]; exact znt a)
  have hA:uV a < 2 ^ lenN (uV a):=zcJ.1 (Nat.le_refl _)
  rw[zao (by omega) (by omega)]
  refine Ev.dwn (H:=fun k i (s:Vector UInt64 4 × Vector UInt64 4)=>big_Over_h0 k i a b s.1 s.2) (n:=256)
    (fun i s=>(∀ j,j < 256→(uV s.1).testBit j=(decide (i≤j) && (uV a / uV b).testBit j))∧uV s.2=uV a / 2 ^ i % uV b) ?_ ?_ (lenN (uV a)) (_,_) hL ?_
  · rintro i ⟨q,r⟩ hi ⟨hq,hr⟩ next
    simp only at hq hr next
    have hT:∀ (r':Vector UInt64 4),uV r'=uV a / 2 ^ i % uV b→(uV a / uV b).testBit i=true→Ev (fun k=>big_Over_h0 k ((i:Int) - 1) a b (Vector.setIfInBounds q (i / 64) (List.getD (Vector.toList q) (i / 64) 0 ||| zah 1 (i % 64))) r') (ovQ a b,ovR a b,ovE b):=by
      intro r' h1 h2
      refine next (Vector.setIfInBounds q (i / 64) (List.getD (Vector.toList q) (i / 64) 0 ||| zah 1 (i % 64)),r') ⟨fun j hj=>?_,h1⟩
      show (uV (Vector.setIfInBounds q _ _)).testBit j=_
      rw[zIa _ _ _ hi hj,hq j hj]
      by_cases e:j=i
      · subst e; rw[decide_eq_true rfl,h2,Bool.or_true,decide_eq_true (Nat.le_refl _)]; rfl
      · rw[decide_eq_false e,Bool.or_false]
        congr 1
        rw[decide_eq_decide]; omega
    have hU:∀ (r':Vector UInt64 4),uV r'=uV a / 2 ^ i % uV b→(uV a / uV b).testBit i=false→Ev (fun k=>big_Over_h0 k ((i:Int) - 1) a b q r') (ovQ a b,ovR a b,ovE b):=by
      intro r' h1 h2
      refine next (q,r') ⟨fun j hj=>?_,h1⟩
      show (uV q).testBit j=_
      rw[hq j hj]
      by_cases e:j=i
      · subst e; rw[h2,Bool.and_false,Bool.and_false]
      · congr 1
        rw[decide_eq_decide]; omega
    have ed:Int.tdiv (i:Int) 64=((i / 64:Nat):Int):=rfl
    have key:∀ (x:Bool),x=(uV a).testBit i→∀ Y,Y=uW (2*uV r+x.toNat)→∀ F:Nat→Option (Vector UInt64 4 × Vector UInt64 4 × Int),(∀ k,F (k+1)=(bif eqb (Nat.testBit (uV r) 255) false then(bif bif false then true else !(subB Y b)then big_Over_h0 k ((i:Int) - 1) a b (Vector.setIfInBounds q (i / 64) (List.getD (Vector.toList q) (i / 64) 0 ||| zah 1 (i % 64))) (subV Y b)else big_Over_h0 k ((i:Int) - 1) a b q Y)else big_Over_h0 k ((i:Int) - 1) a b (Vector.setIfInBounds q (i / 64) (List.getD (Vector.toList q) (i / 64) 0 ||| zah 1 (i % 64))) (subV Y b)))→Ev F (ovQ a b,ovR a b,ovE b):=by
      intro x hx Y hY F hF
      obtain ⟨r',h1,h2⟩:=zxb a b r i hB hr (fun v=>fun k=>big_Over_h0 k ((i:Int) - 1) a b (Vector.setIfInBounds q (i / 64) (List.getD (Vector.toList q) (i / 64) 0 ||| zah 1 (i % 64))) v) (fun v=>fun k=>big_Over_h0 k ((i:Int) - 1) a b q v) x hx Y hY
      cases hb:(uV a / uV b).testBit i with
      | true =>
        rw[hb,if_pos rfl]at h2
        refine Ev.step (fun k=>?_) (hT r' h1 hb)
        rw[hF k,←congrFun h2 k]
        cases eqb (Nat.testBit (uV r) 255) false<;>cases subB Y b<;>rfl
      | false =>
        rw[hb,if_neg (by decide)]at h2
        refine Ev.step (fun k=>?_) (hU r' h1 hb)
        rw[hF k,←congrFun h2 k]
        cases eqb (Nat.testBit (uV r) 255) false<;>cases subB Y b<;>rfl
    cases hx:(uV a).testBit i with
    | true =>
      refine key true hx.symm (uW (2*uV r+1)) rfl _ fun k=>?_
      rw[big_Over_h0.eq_2,zav (by omega),if_pos (by omega),Int.toNat_natCast,hx,cond_true,zHZ,ed,zhw (a:=i / 64) (by omega),if_pos (by omega),zlz i hi,Int.toNat_natCast,zao (by omega) (by omega)]
    | false =>
      refine key false hx.symm (uW (uV r*2 ^ 1)) (by rw[Bool.toNat_false,Nat.add_zero,Nat.mul_comm]) _ fun k=>?_
      rw[big_Over_h0.eq_2,zav (by omega),if_pos (by omega),Int.toNat_natCast,hx,cond_false,ed,zhw (a:=i / 64) (by omega),if_pos (by omega),zlz i hi,Int.toNat_natCast,zao (by omega) (by omega)]
  · rintro ⟨q,r⟩ ⟨hq,hr⟩
    refine Ev.done fun k=>?_
    simp only at hq hr
    show big_Over_h0 (k+1) _ a b q r=_
    rw[big_Over_h0.eq_2,zax (by omega)]
    rw[zEW,zG2,zGV]
    refine congrArg some (Prod.ext ?_ (Prod.ext ?_ ?_))
    · refine zkx fun j hj=>?_
      show (uV q).testBit j=(uV (uW _)).testBit j
      rw[hq j hj,zpg,decide_eq_true hj,decide_eq_true (Nat.zero_le _)]
    · show r=uW _
      rw[if_neg c0]
      apply zuw
      rw[hr,zhJ,Nat.pow_zero,Nat.div_one]
      have:=znt b
      have:=Nat.mod_lt (uV a) hB
      omega
    · show (0:Int)=if uV b=0 then 2 else 0
      rw[if_neg c0]
  · refine ⟨fun j hj=>?_,?_⟩
    · show (uV (Vector.replicate 4 0)).testBit j=_
      rw[zsc,Nat.zero_testBit]
      by_cases c:lenN (uV a)≤j
      · have h1:uV a / uV b≤uV a:=Nat.div_le_self _ _
        have h2:2 ^ lenN (uV a)≤2 ^ j:=Nat.pow_le_pow_right (by decide) c
        rw[Nat.testBit_lt_two_pow (x:=uV a / uV b) (i:=j) (by omega),Bool.and_false]
      · rw[decide_eq_false c,Bool.false_and]
    · show uV (Vector.replicate 4 0)=_
      rw[zsc,Nat.div_eq_of_lt hA,Nat.zero_mod]
end
end Go.Proofs.YtnolgfdjcipmmaaDoor.M
namespace Go.Proofs.YtnolgfdjcipmmaaDoor.M
open Go
noncomputable section
def big_Less (a:Vector UInt64 4) (b:Vector UInt64 4):Bool :=
  (subB a b)
theorem zvL (a b:Vector UInt64 4):big_Less a b=subB a b:=rfl
end
end Go.Proofs.YtnolgfdjcipmmaaDoor.M
namespace Go.Proofs.YtnolgfdjcipmmaaDoor.M
open Go
noncomputable section
def big_Mul_h0:Nat→UInt64→UInt64→Int→(Vector UInt64 4)→(Vector UInt64 4)→Option (Vector UInt64 4 × UInt64)
  | 0,_,_,_,_,_=>none
  | k+1,n,carry,t11,a,t4=>bif decide (t11 < (4:Int)) then(if((0:Int)≤t11)∧(t11 < (4:Int)) then
        big_Mul_h0 k n ((zvP (List.getD (Vector.toList a) (Int.toNat t11) (0:UInt64)) n)+(zhu (zqb (List.getD (Vector.toList a) (Int.toNat t11) (0:UInt64)) n) carry (0:UInt64))) (w64 (t11+(1:Int))) (Vector.setIfInBounds a (Int.toNat t11) (((zqb (List.getD (Vector.toList a) (Int.toNat t11) (0:UInt64)) n)+carry)+(0:UInt64))) t4
      else none)
      else(some (a,carry))
def big_Mul (k:Nat) (a:Vector UInt64 4) (n:UInt64):Option (Vector UInt64 4 × UInt64) :=
  big_Mul_h0 k n (0:UInt64) (0:Int) a (Vector.replicate 4 (0:UInt64))
theorem zGq {A n W p:Nat} (hp:0 < p) (hW:0 < W):(A % (p*W))*n / (p*W)=((A % p)*n / p+A / p % W*n) / W∧A*n / p % W=((A % p)*n / p+A / p % W*n) % W:=by
  have e1:A % (p*W)=A % p+p*(A / p % W):=Nat.mod_mul
  have e2:(A % (p*W))*n=p*(A / p % W*n)+(A % p)*n:=by rw[e1]; grind
  have e3:(A % (p*W))*n / p=(A % p)*n / p+A / p % W*n:=by rw[e2,Nat.mul_add_div hp,Nat.add_comm]
  constructor
  · rw[←Nat.div_div_eq_div_mul,e3]
  · have h:=Nat.div_add_mod A (p*W)
    have e4:A*n=p*(W*(A / (p*W)*n))+(A % (p*W))*n:=by
      have:A*n=(p*W*(A / (p*W))+A % (p*W))*n:=by rw[h]
      rw[this]; grind
    rw[e4,Nat.mul_add_div hp,e3,Nat.mul_add_mod]
theorem zzV (a:Vector UInt64 4) (n:UInt64):∃ k,big_Mul k a n=some (uW (uV a*n.toNat),mulC a n):=by
  show Ev (fun k=>big_Mul k a n) _
  refine Ev.same (fun k=>big_Mul.eq_1 k a n) ?_
  have hnl:=n.toNat_lt
  refine Ev.inv (H:=fun k i (s:Vector UInt64 4 × UInt64)=>big_Mul_h0 k n s.2 i s.1 (Vector.replicate 4 0)) (n:=4)
    (fun i s=>(∀ j,j < 4→gW s.1 j=if j < i then uV a*n.toNat / 18446744073709551616 ^ j % 18446744073709551616 else gW a j)∧s.2.toNat=(uV a % 18446744073709551616 ^ i)*n.toNat / 18446744073709551616 ^ i) ?_ ?_ 4 0 (a,0) rfl ?_
  · rintro i ⟨q,r⟩ hi ⟨hq,hr⟩ next
    simp only at hq hr next
    have hg:gW q i=gW a i:=by rw[hq i hi,if_neg (by omega)]
    have hgl:=zh2 a i
    have hrl:=r.toNat_lt
    have two:=zGq (A:=uV a) (n:=n.toNat) (W:=18446744073709551616) (Nat.pow_pos (n:=i) (show 0 < 18446744073709551616 by decide)) (by decide)
    rw[←hr,←zGY a i hi,←Nat.pow_succ]at two
    have hb:gW a i*n.toNat≤18446744073709551615*18446744073709551615:=Nat.mul_le_mul (by omega) (by omega)
    have hl:(zqb (List.getD (Vector.toList q) i 0) n).toNat=gW a i*n.toNat % 18446744073709551616:=by
      unfold zqb
      rw[za1,UInt64.toNat_mul,zfV,hg]
    have hh:(zvP (List.getD (Vector.toList q) i 0) n).toNat=gW a i*n.toNat / 18446744073709551616:=by
      unfold zvP
      rw[za1,UInt64.toNat_ofNat',zfV,hg]
      omega
    have wv:∀ (L Hh:UInt64),L.toNat=gW a i*n.toNat % 18446744073709551616→Hh.toNat=gW a i*n.toNat / 18446744073709551616→(L+r+0).toNat=(r.toNat+gW a i*n.toNat) % 18446744073709551616∧(Hh+zhu L r 0).toNat=(r.toNat+gW a i*n.toNat) / 18446744073709551616:=by
      intro L Hh hl hh
      have hll:=L.toNat_lt
      have ha:(zhu L r 0).toNat=(L.toNat+r.toNat) / 18446744073709551616:=by
        unfold zhu
        rw[UInt64.toNat_ofNat',show (0:UInt64).toNat=0 from rfl]
        omega
      generalize gW a i*n.toNat=P at *
      constructor
      · rw[UInt64.toNat_add,UInt64.toNat_add,show (0:UInt64).toNat=0 from rfl]
        omega
      · rw[UInt64.toNat_add,ha]
        omega
    obtain ⟨w1,w2⟩:=wv _ _ hl hh
    refine Ev.step (fun k=>?_) (next (Vector.setIfInBounds q i (zqb (List.getD (Vector.toList q) i 0) n+r+0),zvP (List.getD (Vector.toList q) i 0) n+zhu (zqb (List.getD (Vector.toList q) i 0) n) r 0) ⟨fun j hj=>?_,?_⟩)
    · show big_Mul_h0 (k+1) n r _ q _=_
      rw[big_Mul_h0.eq_2,zav (by omega),if_pos (by omega),Int.toNat_natCast,zao (by omega) (by omega)]
    · show gW (Vector.setIfInBounds q i _) j=_
      rw[zqZ _ _ _ _ hi]
      by_cases e:i=j
      · subst e
        rw[if_pos rfl,if_pos (by omega),two.2,w1]
      · rw[if_neg e,hq j hj]
        by_cases c:j < i
        · rw[if_pos c,if_pos (by omega)]
        · rw[if_neg c,if_neg (by omega)]
    · show (zvP (List.getD (Vector.toList q) i 0) n+zhu (zqb (List.getD (Vector.toList q) i 0) n) r 0).toNat=_
      rw[w2,two.1]
  · rintro ⟨q,r⟩ ⟨hq,hr⟩
    simp only at hq hr
    refine Ev.done fun k=>?_
    show big_Mul_h0 (k+1) n r _ q _=_
    rw[big_Mul_h0.eq_2,zax (by omega)]
    rw[zFx]
    refine congrArg some (Prod.ext ?_ ?_)
    · refine zGa fun j hj=>?_
      show gW q j=gW (uW _) j
      rw[hq j hj,if_pos hj,zkG _ _ hj]
    · show r=UInt64.ofNat _
      have:uV a % 18446744073709551616 ^ 4=uV a:=Nat.mod_eq_of_lt (znt a)
      rw[this]at hr
      rw[show 115792089237316195423570985008687907853269984665640564039457584007913129639936=18446744073709551616 ^ 4 by decide,←hr,UInt64.ofNat_toNat]
  · refine ⟨fun j hj=>?_,?_⟩
    · rw[if_neg (by omega)]
    · show (0:UInt64).toNat=_
      rw[Nat.pow_zero,Nat.mod_one,Nat.zero_mul]
      rfl
end
end Go.Proofs.YtnolgfdjcipmmaaDoor.M
namespace Go.Proofs.YtnolgfdjcipmmaaDoor.M
open Go
noncomputable section
def big_Div_h0:Nat→UInt64→UInt64→Int→(Vector UInt64 4)→(Vector UInt64 4)→Option (Vector UInt64 4 × UInt64 × Int)
  | 0,_,_,_,_,_=>none
  | k+1,n,left,i,a,t4=>bif decide ((0:Int)≤i) then(if((0:Int)≤i)∧(i < (4:Int)) then
        if(UInt64.toNat left) < (UInt64.toNat n) then
          big_Div_h0 k n (UInt64.ofNat ((((UInt64.toNat left)*(18446744073709551616:Nat))+(UInt64.toNat (List.getD (Vector.toList a) (Int.toNat i) (0:UInt64)))) % (UInt64.toNat n))) (w64 (i - (1:Int))) (Vector.setIfInBounds a (Int.toNat i) (UInt64.ofNat ((((UInt64.toNat left)*(18446744073709551616:Nat))+(UInt64.toNat (List.getD (Vector.toList a) (Int.toNat i) (0:UInt64)))) / (UInt64.toNat n)))) t4
        else none
      else none)
      else(some (a,left,(0:Int)))
def big_Div (k:Nat) (a:Vector UInt64 4) (n:UInt64):Option (Vector UInt64 4 × UInt64 × Int) :=
  bif decide (n=(0:UInt64)) then(some ((Vector.replicate 4 (0:UInt64)),(0:UInt64),(2:Int)))
    else(big_Div_h0 k n (0:UInt64) (3:Int) a (Vector.replicate 4 (0:UInt64)))
theorem zHO {Y:Nat} (hY:0 < Y) (A c:Nat):(A*18446744073709551616+c) / Y=A / Y*18446744073709551616+(A % Y*18446744073709551616+c) / Y∧(A*18446744073709551616+c) % Y=(A % Y*18446744073709551616+c) % Y:=by
  have h:=Nat.div_add_mod A Y
  have e:A*18446744073709551616+c=Y*(A / Y*18446744073709551616)+(A % Y*18446744073709551616+c):=by
    have:A*18446744073709551616=(Y*(A / Y)+A % Y)*18446744073709551616:=by rw[h]
    rw[this]
    grind
  constructor
  · rw[e,Nat.mul_add_div hY]
  · rw[e,Nat.mul_add_mod]
theorem zzw (a:Vector UInt64 4) (n:UInt64):∃ k,big_Div k a n=some (uW (uV a / n.toNat),divR a n,divE n):=by
  show Ev (fun k=>big_Div k a n) _
  refine Ev.same (fun k=>big_Div.eq_1 k a n) ?_
  by_cases c0:n=0
  · refine Ev.done0 fun k=>?_
    rw[zav c0,c0]
    rw[zBt,zEq]
    rw[show (0:UInt64).toNat=0 from rfl,if_pos rfl,if_pos rfl,Nat.div_zero]
    rfl
  have hn0:n.toNat≠0:=fun e=>c0 (UInt64.toNat_inj.1 e)
  have hn:0 < n.toNat:=by omega
  have hnl:=n.toNat_lt
  refine Ev.same (fun k=>zax c0) ?_
  refine Ev.dwn (H:=fun k i (s:Vector UInt64 4 × UInt64)=>big_Div_h0 k n s.2 i s.1 (Vector.replicate 4 0)) (n:=4)
    (fun i s=>(∀ j,j < 4→gW s.1 j=if i≤j then uV a / n.toNat / 18446744073709551616 ^ j % 18446744073709551616 else gW a j)∧s.2.toNat=uV a / 18446744073709551616 ^ i % n.toNat) ?_ ?_ 4 (a,0) (Nat.le_refl _) ?_
  · rintro i ⟨q,r⟩ hi ⟨hq,hr⟩ next
    simp only at hq hr next
    have hrl:r.toNat < n.toNat:=by rw[hr]; exact Nat.mod_lt _ hn
    have hg:gW q i=gW a i:=by rw[hq i hi,if_neg (by omega)]
    have hgl:=zh2 a i
    have hs:uV a / 18446744073709551616 ^ i=uV a / 18446744073709551616 ^ (i+1)*18446744073709551616+gW a i:=by
      rw[zGY a i hi,Nat.pow_succ,←Nat.div_div_eq_div_mul]
      exact (Nat.div_add_mod' _ _).symm
    have two:=zHO hn (uV a / 18446744073709551616 ^ (i+1)) (gW a i)
    rw[←hr,←hs]at two
    have dl:(r.toNat*18446744073709551616+gW a i) / n.toNat < 18446744073709551616:=by
      rw[Nat.div_lt_iff_lt_mul hn]
      have:(r.toNat+1)*18446744073709551616≤n.toNat*18446744073709551616:=Nat.mul_le_mul_right _ hrl
      omega
    have ml:=Nat.mod_lt (r.toNat*18446744073709551616+gW a i) hn
    refine Ev.step (fun k=>?_) (next (Vector.setIfInBounds q i (UInt64.ofNat ((r.toNat*18446744073709551616+gW a i) / n.toNat)),UInt64.ofNat ((r.toNat*18446744073709551616+gW a i) % n.toNat)) ⟨fun j hj=>?_,?_⟩)
    · show big_Div_h0 (k+1) n r _ q _=_
      rw[big_Div_h0.eq_2,zav (by omega),if_pos (by omega),if_pos hrl,Int.toNat_natCast,zfV,hg,zao (by omega) (by omega)]
    · show gW (Vector.setIfInBounds q i _) j=_
      rw[zqZ _ _ _ _ hi]
      by_cases e:i=j
      · subst e
        rw[if_pos rfl,if_pos (Nat.le_refl _),UInt64.toNat_ofNat',Nat.mod_eq_of_lt (by omega),Nat.div_div_eq_div_mul,Nat.mul_comm n.toNat,←Nat.div_div_eq_div_mul,two.1,Nat.mul_comm (_ / _),Nat.mul_add_mod,Nat.mod_eq_of_lt dl]
      · rw[if_neg e,hq j hj]
        by_cases c:i+1≤j
        · rw[if_pos c,if_pos (by omega)]
        · rw[if_neg c,if_neg (by omega)]
    · show (UInt64.ofNat _).toNat=_
      rw[UInt64.toNat_ofNat',two.2,Nat.mod_eq_of_lt (by omega)]
  · rintro ⟨q,r⟩ ⟨hq,hr⟩
    simp only at hq hr
    refine Ev.done fun k=>?_
    show big_Div_h0 (k+1) n r _ q _=_
    rw[big_Div_h0.eq_2,zax (by omega)]
    rw[zBt,zEq]
    refine congrArg some (Prod.ext ?_ (Prod.ext ?_ ?_))
    · refine zGa fun j hj=>?_
      show gW q j=gW (uW _) j
      rw[hq j hj,if_pos (Nat.zero_le _),zkG _ _ hj]
    · show r=if n.toNat=0 then 0 else _
      rw[if_neg hn0]
      rw[Nat.pow_zero,Nat.div_one]at hr
      rw[←hr,UInt64.ofNat_toNat]
    · show (0:Int)=if n.toNat=0 then 2 else 0
      rw[if_neg hn0]
  · refine ⟨fun j hj=>?_,?_⟩
    · rw[if_neg (by omega)]
    · show (0:UInt64).toNat=_
      rw[Nat.div_eq_of_lt (znt a),Nat.zero_mod]
      rfl
end
end Go.Proofs.YtnolgfdjcipmmaaDoor.M
namespace Go.Proofs.YtnolgfdjcipmmaaDoor.M
open Go
noncomputable section
set_option maxRecDepth 100000
set_option maxHeartbeats 0
noncomputable def zwz:Tbl:=[]
noncomputable def zB7:CfgW:=mkC Tryd.prog theG zwz 5 0 false
def zr7:Nat→List Nat:=fun i=>[]
noncomputable abbrev zvO:Code:=Tryd.f28.body.getD .skip
noncomputable abbrev zB1:List ResultVar:=Tryd.f28.results.toList
def zsi:List Nat:=[]
def zhA (r:Vector UInt64 4):CallOut:=⟨.pv (.arr .u64 4 r),[],true,[]⟩
theorem zGm (n:UInt64) (Q:CallOut→Prop):zab zB7 zr7 zB1 zsi zvO [.pv (.sc .u64 n)] [] Q =
    (Q (zhA (Vector.setIfInBounds (Vector.replicate 4 (0:UInt64)) (0:Nat) n))):=by kernel_rfl
theorem zGD (n:UInt64) {Q:CallOut→Prop} (h:Q (zhA (big_Of n))):zab zB7 zr7 zB1 zsi zvO [.pv (.sc .u64 n)] [] Q :=
  Eq.mpr (zGm n Q) (have h:=Eq.mp (congrArg (fun r=>Q (zhA r)) (big_Of.eq_1 n)) h; h)
def zfh:Ans
  | [.pv (.sc .u64 n)],[]=>some (none,zhA (uW n.toNat))
  | _,_=>none
theorem zDQ:TblOK Tryd.prog theG zwz:=.nil
theorem zhG:FnOK Tryd.prog theG 28 (unW zfh):=by
  refine FnOK.ofC (T:=zwz) (nt:=5) (np:=0) (mv:=[]) (nf:=false) (hs:=zsi) (fn:=Tryd.f28) (body:=zvO) zDQ (by kernel_rfl) (by kernel_rfl) (by kernel_rfl) (by kernel_rfl) (c:=zfh) (lv:=zr7) ?_
  intro xs mem p out h hp
  unfold zfh at h
  split at h
  · cases h
    exact zGD _ (congrArg zhA (zAW _))
  · cases h
end
end Go.Proofs.YtnolgfdjcipmmaaDoor.M
namespace Go.Proofs.YtnolgfdjcipmmaaDoor.M
open Go
noncomputable section
set_option maxRecDepth 100000
set_option maxHeartbeats 0
noncomputable def zmm:Tbl:=[]
noncomputable def za9:CfgW:=mkC Tryd.prog theG zmm 59 0 false
def zbP:Nat→List Nat:=fun i=>bif Nat.beq i 1 then [1,2,4,5,6]else []
noncomputable abbrev zck:Code:=Tryd.f62.body.getD .skip
noncomputable abbrev zcx:List ResultVar:=Tryd.f62.results.toList
def zbQ:List Nat:=[]
def zby (r:Vector UInt64 4):CallOut:=⟨.pv (.arr .u64 4 r),[],true,[]⟩
def zdm (n:Int) (i:Int) (a:Vector UInt64 4) (t4:Vector UInt64 4) (x_:Vector UInt64 4):St:=⟨[(1,.pv (.sc .i n)),(2,.p 60000 []),(4,.p 60001 []),(5,.p 60002 []),(6,.pv (.sc .i i))],[(60000,.box (.pv (.arr .u64 4 a))),(60001,.box (.pv (.arr .u64 4 t4))),(60002,.box (.pv (.arr .u64 4 x_)))]⟩
theorem zyT (n:Int) (i:Int) (a:Vector UInt64 4) (t4:Vector UInt64 4) (x_:Vector UInt64 4) (Q:CallOut→Prop):zaB za9 zbP [true,true,true,false,true,false] zck (zdm n i a t4 x_) (fnK za9 zcx zbQ Q) =
  (let s0:=(Vector.setIfInBounds x_ (Int.toNat i) (zaa (List.getD (Vector.toList a) (Int.toNat (w64 (i+(w64 (Int.tdiv n (64:Int)))))) (0:UInt64)) (UInt64.toNat ((UInt64.ofInt n) % (64:UInt64)))));let s1:=(zat za9 zbP [true,true,true,false,true,false] zck (zdm n (w64 (i+(1:Int))) a t4  s0 ) (fnK za9 zcx zbQ Q));(((64:Int)≠(0:Int))∧(zal (decide ((w64 (i+(w64 (Int.tdiv n (64:Int))))) < (4:Int))) (((64:Int)≠(0:Int))∧((((0:Int)≤(w64 (i+(w64 (Int.tdiv n (64:Int))))))∧((w64 (i+(w64 (Int.tdiv n (64:Int))))) < (4:Int)))∧(((64:UInt64)≠(0:UInt64))∧((((0:Int)≤i)∧(i < (4:Int)))∧(zal (eqb (decide ((w64 ((w64 (i+(w64 (Int.tdiv n (64:Int)))))+(1:Int))) < (4:Int))) true) (((64:Int)≠(0:Int))∧(zal (bif true then(!(decide ((Int.tmod n (64:Int))=(0:Int))))else false) ((((0:Int)≤i)∧(i < (4:Int)))∧((((0:Int)≤(w64 ((w64 (i+(w64 (Int.tdiv n (64:Int)))))+(1:Int))))∧((w64 ((w64 (i+(w64 (Int.tdiv n (64:Int)))))+(1:Int))) < (4:Int)))∧(((64:UInt64)≠(0:UInt64))∧((((0:Int)≤i)∧(i < (4:Int)))∧(zat za9 zbP [true,true,true,false,true,false] zck (zdm n (w64 (i+(1:Int))) a t4 (Vector.setIfInBounds  s0  (Int.toNat i) ((List.getD (Vector.toList  s0 ) (Int.toNat i) (0:UInt64)) ||| (zah (List.getD (Vector.toList a) (Int.toNat (w64 ((w64 (i+(w64 (Int.tdiv n (64:Int)))))+(1:Int)))) (0:UInt64)) (UInt64.toNat ((64:UInt64) - ((UInt64.ofInt n) % (64:UInt64)))))))) (fnK za9 zcx zbQ Q))))))  s1 ))  s1 ))))) (Q (zby x_))))):=by kernel_rfl
theorem zgt {r:Vector UInt64 4} {Q:CallOut→Prop} (hQ:Q (zby r)):∀ k:Nat,(∀ (n:Int) (i:Int) (a:Vector UInt64 4) (t4:Vector UInt64 4) (x_:Vector UInt64 4),big_Right_h1 k n i a t4 x_=some r→zat za9 zbP [true,true,true,false,true,false] zck (zdm n i a t4 x_) (fnK za9 zcx zbQ Q))
  | 0=>fun _ _ _ _ _ h=>zcN h
  | k+1=>fun n i a t4 x_ h=>zau (Eq.mpr (zyT n i a t4 x_ Q) (have h:=(big_Right_h1.eq_2 n i a t4 x_ k).symm.trans h; ⟨by decide +kernel,zae h (fun h=>⟨by decide +kernel,zad h fun hc0 h=>⟨by decide +kernel,zad h fun hc1 h=>zae h (fun h=>⟨by decide +kernel,zae h (fun h=>⟨hc1,zad h fun hc2 h=>⟨by decide +kernel,⟨hc1,(zgt hQ k) _ _ _ _ _ h⟩⟩⟩) (fun h=>(zgt hQ k) _ _ _ _ _ h)⟩) (fun h=>(zgt hQ k) _ _ _ _ _ h)⟩⟩) (fun h=>zam (Q:=Q) (e:=zby) h hQ)⟩))
theorem zA0 (a:Vector UInt64 4) (n:Int) (Q:CallOut→Prop):zab za9 zbP zcx zbQ zck [.pv (.arr .u64 4 a),.pv (.sc .i n)] [] Q =
    (zal (decide (n≤(0:Int))) (Q (zby a)) (zal (decide ((256:Int)≤n)) (Q (zby (Vector.replicate 4 (0:UInt64)))) (zat za9 zbP [true,true,true,false,true,false] zck (zdm n (0:Int) a (Vector.replicate 4 (0:UInt64)) (Vector.replicate 4 (0:UInt64))) (fnK za9 zcx zbQ Q)))):=by kernel_rfl
theorem zAp {k:Nat} (a:Vector UInt64 4) (n:Int) {r} {Q:CallOut→Prop} (h:big_Right k a n=some r) (hQ:Q (zby r)):zab za9 zbP zcx zbQ zck [.pv (.arr .u64 4 a),.pv (.sc .i n)] [] Q :=
  Eq.mpr (zA0 a n Q) (have h:=(big_Right.eq_1 k a n).symm.trans h; zae h (fun h=>zam (Q:=Q) (e:=zby) h hQ) (fun h=>zae h (fun h=>zam (Q:=Q) (e:=zby) h hQ) (fun h=>(zgt hQ _) _ _ _ _ _ h)))
def zfT:Ans
  | [.pv (.arr .u64 4 a),.pv (.sc .i n)],[]=>some (some (-9223372036854775808≤n∧n < 9223372036854775808),zby (uW (uV a / 2 ^ n.toNat)))
  | _,_=>none
theorem zvg:TblOK Tryd.prog theG zmm:=.nil
theorem zpQ:FnOK Tryd.prog theG 62 (unW zfT):=by
  refine FnOK.ofC (T:=zmm) (nt:=59) (np:=0) (mv:=[]) (nf:=false) (hs:=zbQ) (fn:=Tryd.f62) (body:=zck) zvg (by kernel_rfl) (by kernel_rfl) (by kernel_rfl) (by kernel_rfl) (c:=zfT) (lv:=zbP) ?_
  intro xs mem p out h hp
  unfold zfT at h
  split at h
  · cases h
    obtain ⟨k,hk⟩:=ztM _ _ hp
    exact zAp _ _ hk rfl
  · cases h
end
end Go.Proofs.YtnolgfdjcipmmaaDoor.M
namespace Go.Proofs.YtnolgfdjcipmmaaDoor.M
open Go
noncomputable section
set_option maxRecDepth 100000
set_option maxHeartbeats 0
noncomputable def zr2:Tbl:=[(79,[],ze1)]
noncomputable def zcR:CfgW:=mkC Tryd.prog theG zr2 19 0 false
def zd4:Nat→List Nat:=fun i=>bif Nat.beq i 0 then [1,3]else []
noncomputable abbrev zf5:Code:=Tryd.f63.body.getD .skip
noncomputable abbrev zhL:List ResultVar:=Tryd.f63.results.toList
def zdW:List Nat:=[]
def zdj (r:Int):CallOut:=⟨.pv (.sc .i r),[],true,[]⟩
def zk2 (i:Int) (a:Vector UInt64 4):St:=⟨[(1,.p 60000 []),(3,.pv (.sc .i i))],[(60000,.box (.pv (.arr .u64 4 a)))]⟩
theorem zDa (i:Int) (a:Vector UInt64 4) (Q:CallOut→Prop):zaB zcR zd4 [true,false,true,false] zf5 (zk2 i a) (fnK zcR zhL zdW Q) =
    (zal (decide ((0:Int)≤i)) ((((0:Int)≤i)∧(i < (4:Int)))∧(zal (!(decide ((List.getD (Vector.toList a) (Int.toNat i) (0:UInt64))=(0:UInt64)))) ((((0:Int)≤i)∧(i < (4:Int)))∧(Q (zdj (w64 ((w64 (i*(64:Int)))+(((lenN (UInt64.toNat (List.getD (Vector.toList a) (Int.toNat i) (0:UInt64)))):Nat):Int)))))) (zat zcR zd4 [true,false,true,false] zf5 (zk2 (w64 (i - (1:Int))) a) (fnK zcR zhL zdW Q)))) (Q (zdj (0:Int)))):=by kernel_rfl
theorem zuh {r:Int} {Q:CallOut→Prop} (hQ:Q (zdj r)):∀ k:Nat,(∀ (i:Int) (a:Vector UInt64 4),big_Len_h0 k i a=some r→zat zcR zd4 [true,false,true,false] zf5 (zk2 i a) (fnK zcR zhL zdW Q))
  | 0=>fun _ _ h=>zcN h
  | k+1=>fun i a h=>zau (Eq.mpr (zDa i a Q) (have h:=(big_Len_h0.eq_2 i a k).symm.trans h; zae h (fun h=>zad h fun hc0 h=>zae h (fun h=>⟨hc0,zam (Q:=Q) (e:=zdj) h hQ⟩) (fun h=>(zuh hQ k) _ _ h)) (fun h=>zam (Q:=Q) (e:=zdj) h hQ)))
theorem zEp (a:Vector UInt64 4) (Q:CallOut→Prop):zab zcR zd4 zhL zdW zf5 [.pv (.arr .u64 4 a)] [] Q =
    (zat zcR zd4 [true,false,true,false] zf5 (zk2 (3:Int) a) (fnK zcR zhL zdW Q)):=by kernel_rfl
theorem zFq {k:Nat} (a:Vector UInt64 4) {r} {Q:CallOut→Prop} (h:big_Len k a=some r) (hQ:Q (zdj r)):zab zcR zd4 zhL zdW zf5 [.pv (.arr .u64 4 a)] [] Q :=
  Eq.mpr (zEp a Q) (have h:=(big_Len.eq_1 k a).symm.trans h; (zuh hQ _) _ _ h)
def zhE:Ans
  | [.pv (.arr .u64 4 a)],[]=>some (none,zdj ((((lenN (uV a)):Nat):Int)))
  | _,_=>none
theorem zA4:TblOK Tryd.prog theG zr2:=.cons ⟨by kernel_rfl,zn6⟩ (.nil)
theorem zoy:FnOK Tryd.prog theG 63 (unW zhE):=by
  refine FnOK.ofC (T:=zr2) (nt:=19) (np:=0) (mv:=[]) (nf:=false) (hs:=zdW) (fn:=Tryd.f63) (body:=zf5) zA4 (by kernel_rfl) (by kernel_rfl) (by kernel_rfl) (by kernel_rfl) (c:=zhE) (lv:=zd4) ?_
  intro xs mem p out h hp
  unfold zhE at h
  split at h
  · cases h
    obtain ⟨k,hk⟩:=zxL _
    exact zFq _ hk rfl
  · cases h
end
end Go.Proofs.YtnolgfdjcipmmaaDoor.M
namespace Go.Proofs.YtnolgfdjcipmmaaDoor.M
open Go
noncomputable section
set_option maxRecDepth 100000
set_option maxHeartbeats 0
noncomputable def zoD:Tbl:=[]
noncomputable def zbt:CfgW:=mkC Tryd.prog theG zoD 57 0 false
def zcj:Nat→List Nat:=fun i=>bif Nat.beq i 1 then [1,2,4,5,6]else []
noncomputable abbrev zcL:Code:=Tryd.f64.body.getD .skip
noncomputable abbrev zdn:List ResultVar:=Tryd.f64.results.toList
def zcl:List Nat:=[]
def zbS (r:Vector UInt64 4):CallOut:=⟨.pv (.arr .u64 4 r),[],true,[]⟩
def zd7 (n:Int) (i:Int) (a:Vector UInt64 4) (t4:Vector UInt64 4) (x_:Vector UInt64 4):St:=⟨[(1,.pv (.sc .i n)),(2,.p 60000 []),(4,.p 60001 []),(5,.p 60002 []),(6,.pv (.sc .i i))],[(60000,.box (.pv (.arr .u64 4 a))),(60001,.box (.pv (.arr .u64 4 t4))),(60002,.box (.pv (.arr .u64 4 x_)))]⟩
theorem zAm (n:Int) (i:Int) (a:Vector UInt64 4) (t4:Vector UInt64 4) (x_:Vector UInt64 4) (Q:CallOut→Prop):zaB zbt zcj [true,true,true,false,true,false] zcL (zd7 n i a t4 x_) (fnK zbt zdn zcl Q) =
  (let s0:=(Vector.setIfInBounds x_ (Int.toNat i) (zah (List.getD (Vector.toList a) (Int.toNat (w64 (i - (w64 (Int.tdiv n (64:Int)))))) (0:UInt64)) (UInt64.toNat ((UInt64.ofInt n) % (64:UInt64)))));let s1:=(zat zbt zcj [true,true,true,false,true,false] zcL (zd7 n (w64 (i - (1:Int))) a t4  s0 ) (fnK zbt zdn zcl Q));(((64:Int)≠(0:Int))∧(zal (decide ((w64 (Int.tdiv n (64:Int)))≤i)) (((64:Int)≠(0:Int))∧((((0:Int)≤(w64 (i - (w64 (Int.tdiv n (64:Int))))))∧((w64 (i - (w64 (Int.tdiv n (64:Int))))) < (4:Int)))∧(((64:UInt64)≠(0:UInt64))∧((((0:Int)≤i)∧(i < (4:Int)))∧(zal (eqb (decide ((0:Int) < (w64 (i - (w64 (Int.tdiv n (64:Int))))))) true) (((64:Int)≠(0:Int))∧(zal (bif true then(!(decide ((Int.tmod n (64:Int))=(0:Int))))else false) ((((0:Int)≤i)∧(i < (4:Int)))∧((((0:Int)≤(w64 ((w64 (i - (w64 (Int.tdiv n (64:Int))))) - (1:Int))))∧((w64 ((w64 (i - (w64 (Int.tdiv n (64:Int))))) - (1:Int))) < (4:Int)))∧(((64:UInt64)≠(0:UInt64))∧((((0:Int)≤i)∧(i < (4:Int)))∧(zat zbt zcj [true,true,true,false,true,false] zcL (zd7 n (w64 (i - (1:Int))) a t4 (Vector.setIfInBounds  s0  (Int.toNat i) ((List.getD (Vector.toList  s0 ) (Int.toNat i) (0:UInt64)) ||| (zaa (List.getD (Vector.toList a) (Int.toNat (w64 ((w64 (i - (w64 (Int.tdiv n (64:Int))))) - (1:Int)))) (0:UInt64)) (UInt64.toNat ((64:UInt64) - ((UInt64.ofInt n) % (64:UInt64)))))))) (fnK zbt zdn zcl Q))))))  s1 ))  s1 ))))) (Q (zbS x_))))):=by kernel_rfl
theorem ziT {r:Vector UInt64 4} {Q:CallOut→Prop} (hQ:Q (zbS r)):∀ k:Nat,(∀ (n:Int) (i:Int) (a:Vector UInt64 4) (t4:Vector UInt64 4) (x_:Vector UInt64 4),big_Left_h1 k n i a t4 x_=some r→zat zbt zcj [true,true,true,false,true,false] zcL (zd7 n i a t4 x_) (fnK zbt zdn zcl Q))
  | 0=>fun _ _ _ _ _ h=>zcN h
  | k+1=>fun n i a t4 x_ h=>zau (Eq.mpr (zAm n i a t4 x_ Q) (have h:=(big_Left_h1.eq_2 n i a t4 x_ k).symm.trans h; ⟨by decide +kernel,zae h (fun h=>⟨by decide +kernel,zad h fun hc0 h=>⟨by decide +kernel,zad h fun hc1 h=>zae h (fun h=>⟨by decide +kernel,zae h (fun h=>⟨hc1,zad h fun hc2 h=>⟨by decide +kernel,⟨hc1,(ziT hQ k) _ _ _ _ _ h⟩⟩⟩) (fun h=>(ziT hQ k) _ _ _ _ _ h)⟩) (fun h=>(ziT hQ k) _ _ _ _ _ h)⟩⟩) (fun h=>zam (Q:=Q) (e:=zbS) h hQ)⟩))
theorem zDV (a:Vector UInt64 4) (n:Int) (Q:CallOut→Prop):zab zbt zcj zdn zcl zcL [.pv (.arr .u64 4 a),.pv (.sc .i n)] [] Q =
    (zal (decide (n≤(0:Int))) (Q (zbS a)) (zal (decide ((256:Int)≤n)) (Q (zbS (Vector.replicate 4 (0:UInt64)))) (zat zbt zcj [true,true,true,false,true,false] zcL (zd7 n (3:Int) a (Vector.replicate 4 (0:UInt64)) (Vector.replicate 4 (0:UInt64))) (fnK zbt zdn zcl Q)))):=by kernel_rfl
theorem zC7 {k:Nat} (a:Vector UInt64 4) (n:Int) {r} {Q:CallOut→Prop} (h:big_Left k a n=some r) (hQ:Q (zbS r)):zab zbt zcj zdn zcl zcL [.pv (.arr .u64 4 a),.pv (.sc .i n)] [] Q :=
  Eq.mpr (zDV a n Q) (have h:=(big_Left.eq_1 k a n).symm.trans h; zae h (fun h=>zam (Q:=Q) (e:=zbS) h hQ) (fun h=>zae h (fun h=>zam (Q:=Q) (e:=zbS) h hQ) (fun h=>(ziT hQ _) _ _ _ _ _ h)))
def zfE:Ans
  | [.pv (.arr .u64 4 a),.pv (.sc .i n)],[]=>some (some (-9223372036854775808≤n∧n < 9223372036854775808),zbS (uW (uV a*2 ^ n.toNat)))
  | _,_=>none
theorem zzX:TblOK Tryd.prog theG zoD:=.nil
theorem zmM:FnOK Tryd.prog theG 64 (unW zfE):=by
  refine FnOK.ofC (T:=zoD) (nt:=57) (np:=0) (mv:=[]) (nf:=false) (hs:=zcl) (fn:=Tryd.f64) (body:=zcL) zzX (by kernel_rfl) (by kernel_rfl) (by kernel_rfl) (by kernel_rfl) (c:=zfE) (lv:=zcj) ?_
  intro xs mem p out h hp
  unfold zfE at h
  split at h
  · cases h
    obtain ⟨k,hk⟩:=zv9 _ _ hp
    exact zC7 _ _ hk rfl
  · cases h
end
end Go.Proofs.YtnolgfdjcipmmaaDoor.M
namespace Go.Proofs.YtnolgfdjcipmmaaDoor.M
open Go
noncomputable section
set_option maxRecDepth 100000
set_option maxHeartbeats 0
noncomputable def zsz:Tbl:=[]
noncomputable def zcX:CfgW:=mkC Tryd.prog theG zsz 28 0 false
def zeg:Nat→List Nat:=fun i=>bif Nat.beq i 0 then [2,3,4,6,8]else []
noncomputable abbrev zf1:Code:=Tryd.f26.body.getD .skip
noncomputable abbrev zhB:List ResultVar:=Tryd.f26.results.toList
def zdU:List Nat:=[]
def zfR (r:Vector UInt64 4 × Bool):CallOut:=⟨.tup [.pv (.arr .u64 4 r.1),.pv (.sc .b r.2)],[],true,[]⟩
def zkP (c:UInt64) (t8:Int) (a:Vector UInt64 4) (b:Vector UInt64 4) (t4:Vector UInt64 4):St:=⟨[(2,.p 60000 []),(3,.p 60001 []),(4,.p 60002 []),(6,.pv (.sc .u64 c)),(8,.pv (.sc .i t8))],[(60000,.box (.pv (.arr .u64 4 a))),(60001,.box (.pv (.arr .u64 4 b))),(60002,.box (.pv (.arr .u64 4 t4)))]⟩
theorem zDy (c:UInt64) (t8:Int) (a:Vector UInt64 4) (b:Vector UInt64 4) (t4:Vector UInt64 4) (Q:CallOut→Prop):zaB zcX zeg [true,true,false,true,false] zf1 (zkP c t8 a b t4) (fnK zcX zhB zdU Q) =
    (zal (decide (t8 < (4:Int))) ((((0:Int)≤t8)∧(t8 < (4:Int)))∧((((0:Int)≤t8)∧(t8 < (4:Int)))∧(((UInt64.toNat c)≤(1:Nat))∧((((0:Int)≤t8)∧(t8 < (4:Int)))∧(zat zcX zeg [true,true,false,true,false] zf1 (zkP (zhu (List.getD (Vector.toList a) (Int.toNat t8) (0:UInt64)) (List.getD (Vector.toList b) (Int.toNat t8) (0:UInt64)) c) (w64 (t8+(1:Int))) (Vector.setIfInBounds a (Int.toNat t8) (((List.getD (Vector.toList a) (Int.toNat t8) (0:UInt64))+(List.getD (Vector.toList b) (Int.toNat t8) (0:UInt64)))+c)) b t4) (fnK zcX zhB zdU Q)))))) (Q (zfR (a,(!(decide (c=(0:UInt64)))))))):=by kernel_rfl
theorem zuG {r:Vector UInt64 4 × Bool} {Q:CallOut→Prop} (hQ:Q (zfR r)):∀ k:Nat,(∀ (c:UInt64) (t8:Int) (a:Vector UInt64 4) (b:Vector UInt64 4) (t4:Vector UInt64 4),big_Add_h0 k c t8 a b t4=some r→zat zcX zeg [true,true,false,true,false] zf1 (zkP c t8 a b t4) (fnK zcX zhB zdU Q))
  | 0=>fun _ _ _ _ _ h=>zcN h
  | k+1=>fun c t8 a b t4 h=>zau (Eq.mpr (zDy c t8 a b t4 Q) (have h:=(big_Add_h0.eq_2 c t8 a b t4 k).symm.trans h; zae h (fun h=>zad h fun hc0 h=>⟨hc0,zad h fun hc1 h=>⟨hc0,(zuG hQ k) _ _ _ _ _ h⟩⟩) (fun h=>zam (Q:=Q) (e:=zfR) h hQ)))
theorem zFd (a:Vector UInt64 4) (b:Vector UInt64 4) (Q:CallOut→Prop):zab zcX zeg zhB zdU zf1 [.pv (.arr .u64 4 a),.pv (.arr .u64 4 b)] [] Q =
    (zat zcX zeg [true,true,false,true,false] zf1 (zkP (0:UInt64) (0:Int) a b (Vector.replicate 4 (0:UInt64))) (fnK zcX zhB zdU Q)):=by kernel_rfl
theorem zE1 {k:Nat} (a:Vector UInt64 4) (b:Vector UInt64 4) {r} {Q:CallOut→Prop} (h:big_Add k a b=some r) (hQ:Q (zfR r)):zab zcX zeg zhB zdU zf1 [.pv (.arr .u64 4 a),.pv (.arr .u64 4 b)] [] Q :=
  Eq.mpr (zFd a b Q) (have h:=(big_Add.eq_1 k a b).symm.trans h; (zuG hQ _) _ _ _ _ _ h)
def zfI:Ans
  | [.pv (.arr .u64 4 a),.pv (.arr .u64 4 b)],[]=>some (none,zfR ((addV a b,addB a b)))
  | _,_=>none
theorem zBM:TblOK Tryd.prog theG zsz:=.nil
theorem zkQ:FnOK Tryd.prog theG 26 (unW zfI):=by
  refine FnOK.ofC (T:=zsz) (nt:=28) (np:=0) (mv:=[]) (nf:=false) (hs:=zdU) (fn:=Tryd.f26) (body:=zf1) zBM (by kernel_rfl) (by kernel_rfl) (by kernel_rfl) (by kernel_rfl) (c:=zfI) (lv:=zeg) ?_
  intro xs mem p out h hp
  unfold zfI at h
  split at h
  · cases h
    obtain ⟨k,hk⟩:=zyE _ _
    exact zE1 _ _ hk rfl
  · cases h
end
end Go.Proofs.YtnolgfdjcipmmaaDoor.M
namespace Go.Proofs.YtnolgfdjcipmmaaDoor.M
open Go
noncomputable section
set_option maxRecDepth 100000
set_option maxHeartbeats 0
noncomputable def zrQ:Tbl:=[]
noncomputable def zcT:CfgW:=mkC Tryd.prog theG zrQ 28 0 false
def zd2:Nat→List Nat:=fun i=>bif Nat.beq i 0 then [2,3,4,6,8]else []
noncomputable abbrev zfQ:Code:=Tryd.f27.body.getD .skip
noncomputable abbrev zhT:List ResultVar:=Tryd.f27.results.toList
def zee:List Nat:=[]
def zgd (r:Vector UInt64 4 × Bool):CallOut:=⟨.tup [.pv (.arr .u64 4 r.1),.pv (.sc .b r.2)],[],true,[]⟩
def zkT (c:UInt64) (t8:Int) (a:Vector UInt64 4) (b:Vector UInt64 4) (t4:Vector UInt64 4):St:=⟨[(2,.p 60000 []),(3,.p 60001 []),(4,.p 60002 []),(6,.pv (.sc .u64 c)),(8,.pv (.sc .i t8))],[(60000,.box (.pv (.arr .u64 4 a))),(60001,.box (.pv (.arr .u64 4 b))),(60002,.box (.pv (.arr .u64 4 t4)))]⟩
theorem zD5 (c:UInt64) (t8:Int) (a:Vector UInt64 4) (b:Vector UInt64 4) (t4:Vector UInt64 4) (Q:CallOut→Prop):zaB zcT zd2 [true,true,false,true,false] zfQ (zkT c t8 a b t4) (fnK zcT zhT zee Q) =
    (zal (decide (t8 < (4:Int))) ((((0:Int)≤t8)∧(t8 < (4:Int)))∧((((0:Int)≤t8)∧(t8 < (4:Int)))∧(((UInt64.toNat c)≤(1:Nat))∧((((0:Int)≤t8)∧(t8 < (4:Int)))∧(zat zcT zd2 [true,true,false,true,false] zfQ (zkT (zmp (List.getD (Vector.toList a) (Int.toNat t8) (0:UInt64)) (List.getD (Vector.toList b) (Int.toNat t8) (0:UInt64)) c) (w64 (t8+(1:Int))) (Vector.setIfInBounds a (Int.toNat t8) (((List.getD (Vector.toList a) (Int.toNat t8) (0:UInt64)) - (List.getD (Vector.toList b) (Int.toNat t8) (0:UInt64))) - c)) b t4) (fnK zcT zhT zee Q)))))) (Q (zgd (a,(!(decide (c=(0:UInt64)))))))):=by kernel_rfl
theorem zuB {r:Vector UInt64 4 × Bool} {Q:CallOut→Prop} (hQ:Q (zgd r)):∀ k:Nat,(∀ (c:UInt64) (t8:Int) (a:Vector UInt64 4) (b:Vector UInt64 4) (t4:Vector UInt64 4),big_Sub_h0 k c t8 a b t4=some r→zat zcT zd2 [true,true,false,true,false] zfQ (zkT c t8 a b t4) (fnK zcT zhT zee Q))
  | 0=>fun _ _ _ _ _ h=>zcN h
  | k+1=>fun c t8 a b t4 h=>zau (Eq.mpr (zD5 c t8 a b t4 Q) (have h:=(big_Sub_h0.eq_2 c t8 a b t4 k).symm.trans h; zae h (fun h=>zad h fun hc0 h=>⟨hc0,zad h fun hc1 h=>⟨hc0,(zuB hQ k) _ _ _ _ _ h⟩⟩) (fun h=>zam (Q:=Q) (e:=zgd) h hQ)))
theorem zFc (a:Vector UInt64 4) (b:Vector UInt64 4) (Q:CallOut→Prop):zab zcT zd2 zhT zee zfQ [.pv (.arr .u64 4 a),.pv (.arr .u64 4 b)] [] Q =
    (zat zcT zd2 [true,true,false,true,false] zfQ (zkT (0:UInt64) (0:Int) a b (Vector.replicate 4 (0:UInt64))) (fnK zcT zhT zee Q)):=by kernel_rfl
theorem zFX {k:Nat} (a:Vector UInt64 4) (b:Vector UInt64 4) {r} {Q:CallOut→Prop} (h:big_Sub k a b=some r) (hQ:Q (zgd r)):zab zcT zd2 zhT zee zfQ [.pv (.arr .u64 4 a),.pv (.arr .u64 4 b)] [] Q :=
  Eq.mpr (zFc a b Q) (have h:=(big_Sub.eq_1 k a b).symm.trans h; (zuB hQ _) _ _ _ _ _ h)
def zdG:Ans
  | [.pv (.arr .u64 4 a),.pv (.arr .u64 4 b)],[]=>some (none,zgd ((subV a b,subB a b)))
  | _,_=>none
theorem zBa:TblOK Tryd.prog theG zrQ:=.nil
theorem zfA:FnOK Tryd.prog theG 27 (unW zdG):=by
  refine FnOK.ofC (T:=zrQ) (nt:=28) (np:=0) (mv:=[]) (nf:=false) (hs:=zee) (fn:=Tryd.f27) (body:=zfQ) zBa (by kernel_rfl) (by kernel_rfl) (by kernel_rfl) (by kernel_rfl) (c:=zdG) (lv:=zd2) ?_
  intro xs mem p out h hp
  unfold zdG at h
  split at h
  · cases h
    obtain ⟨k,hk⟩:=zxV _ _
    exact zFX _ _ hk rfl
  · cases h
end
end Go.Proofs.YtnolgfdjcipmmaaDoor.M
namespace Go.Proofs.YtnolgfdjcipmmaaDoor.M
open Go
noncomputable section
set_option maxRecDepth 100000
set_option maxHeartbeats 0
noncomputable def zr6:Tbl:=[]
noncomputable def zzS:CfgW:=mkC Tryd.prog theG zr6 15 0 false
def zoI:Nat→List Nat:=fun i=>[]
noncomputable abbrev zsI:Code:=Tryd.f65.body.getD .skip
noncomputable abbrev zyg:List ResultVar:=Tryd.f65.results.toList
def zoA:List Nat:=[]
def zjp (r:Bool):CallOut:=⟨.pv (.sc .b r),[],true,[]⟩
theorem zE0 (a:Vector UInt64 4) (n:Int) (Q:CallOut→Prop):zab zzS zoI zyg zoA zsI [.pv (.arr .u64 4 a),.pv (.sc .i n)] [] Q =
    (((64:Int)≠(0:Int))∧((((0:Int)≤(w64 (Int.tdiv n (64:Int))))∧((w64 (Int.tdiv n (64:Int))) < (4:Int)))∧(((64:UInt64)≠(0:UInt64))∧(Q (zjp (!(decide (((zaa (List.getD (Vector.toList a) (Int.toNat (w64 (Int.tdiv n (64:Int)))) (0:UInt64)) (UInt64.toNat ((UInt64.ofInt n) % (64:UInt64)))) &&& (1:UInt64))=(0:UInt64))))))))):=by kernel_rfl
theorem zEv (a:Vector UInt64 4) (n:Int) {r} {Q:CallOut→Prop} (h:big_bit a n=some r) (hQ:Q (zjp r)):zab zzS zoI zyg zoA zsI [.pv (.arr .u64 4 a),.pv (.sc .i n)] [] Q :=
  Eq.mpr (zE0 a n Q) (have h:=(big_bit.eq_1 a n).symm.trans h; ⟨by decide +kernel,zad h fun hc0 h=>⟨by decide +kernel,zam (Q:=Q) (e:=zjp) h hQ⟩⟩)
def znl:Ans
  | [.pv (.arr .u64 4 a),.pv (.sc .i n)],[]=>some (some (0≤n∧n < 256),zjp ((uV a).testBit n.toNat))
  | _,_=>none
theorem zAE:TblOK Tryd.prog theG zr6:=.nil
theorem zCN:FnOK Tryd.prog theG 65 (unW znl):=by
  refine FnOK.ofC (T:=zr6) (nt:=15) (np:=0) (mv:=[]) (nf:=false) (hs:=zoA) (fn:=Tryd.f65) (body:=zsI) zAE (by kernel_rfl) (by kernel_rfl) (by kernel_rfl) (by kernel_rfl) (c:=znl) (lv:=zoI) ?_
  intro xs mem p out h hp
  unfold znl at h
  split at h
  · cases h
    exact zEv _ _ (zzN _ _ hp) rfl
  · cases h
end
end Go.Proofs.YtnolgfdjcipmmaaDoor.M
namespace Go.Proofs.YtnolgfdjcipmmaaDoor.M
open Go
noncomputable section
set_option maxRecDepth 100000
set_option maxHeartbeats 0
noncomputable def zoR:Tbl:=[(63,[],zhE),(65,[],znl),(64,[],zfE),(27,[],zdG)]
noncomputable def zaT:CfgW:=mkC Tryd.prog theG zoR 58 0 false
def zbu:Nat→List Nat:=fun i=>bif Nat.beq i 0 then [2,3,4,5,7]else []
noncomputable abbrev zbL:Code:=Tryd.f45.body.getD .skip
noncomputable abbrev zbZ:List ResultVar:=Tryd.f45.results.toList
def zbv:List Nat:=[]
def zcz (r:Vector UInt64 4 × Vector UInt64 4 × Int):CallOut:=⟨.tup [.pv (.arr .u64 4 r.1),.pv (.arr .u64 4 r.2.1),.pv (.sc .i r.2.2)],[],true,[]⟩
def zb7 (n:Int) (a:Vector UInt64 4) (b:Vector UInt64 4) (q:Vector UInt64 4) (r_:Vector UInt64 4):St:=⟨[(2,.p 60000 []),(3,.p 60001 []),(4,.p 60002 []),(5,.p 60003 []),(7,.pv (.sc .i n))],[(60000,.box (.pv (.arr .u64 4 a))),(60001,.box (.pv (.arr .u64 4 b))),(60002,.box (.pv (.arr .u64 4 q))),(60003,.box (.pv (.arr .u64 4 r_)))]⟩
theorem zAJ (n:Int) (a:Vector UInt64 4) (b:Vector UInt64 4) (q:Vector UInt64 4) (r_:Vector UInt64 4) (Q:CallOut→Prop):zaB zaT zbu [true,true,false,true,false] zbL (zb7 n a b q r_) (fnK zaT zbZ zbv Q) =
  (let s0:=(((64:Int)≠(0:Int))∧((((0:Int)≤(w64 (Int.tdiv n (64:Int))))∧((w64 (Int.tdiv n (64:Int))) < (4:Int)))∧(((64:UInt64)≠(0:UInt64))∧((((0:Int)≤(w64 (Int.tdiv n (64:Int))))∧((w64 (Int.tdiv n (64:Int))) < (4:Int)))∧(zat zaT zbu [true,true,false,true,false] zbL (zb7 (w64 (n - (1:Int))) a b (Vector.setIfInBounds q (Int.toNat (w64 (Int.tdiv n (64:Int)))) ((List.getD (Vector.toList q) (Int.toNat (w64 (Int.tdiv n (64:Int)))) (0:UInt64)) ||| (zah (1:UInt64) (UInt64.toNat ((UInt64.ofInt n) % (64:UInt64)))))) (subV (Vector.setIfInBounds (uW ((uV r_)*((2:Nat) ^ (1:Nat)))) (0:Nat) ((List.getD (Vector.toList (uW ((uV r_)*((2:Nat) ^ (1:Nat))))) (0:Nat) (0:UInt64)) ||| (1:UInt64))) b)) (fnK zaT zbZ zbv Q))))));let s1:=(((64:Int)≠(0:Int))∧((((0:Int)≤(w64 (Int.tdiv n (64:Int))))∧((w64 (Int.tdiv n (64:Int))) < (4:Int)))∧(((64:UInt64)≠(0:UInt64))∧((((0:Int)≤(w64 (Int.tdiv n (64:Int))))∧((w64 (Int.tdiv n (64:Int))) < (4:Int)))∧(zat zaT zbu [true,true,false,true,false] zbL (zb7 (w64 (n - (1:Int))) a b (Vector.setIfInBounds q (Int.toNat (w64 (Int.tdiv n (64:Int)))) ((List.getD (Vector.toList q) (Int.toNat (w64 (Int.tdiv n (64:Int)))) (0:UInt64)) ||| (zah (1:UInt64) (UInt64.toNat ((UInt64.ofInt n) % (64:UInt64)))))) (subV (uW ((uV r_)*((2:Nat) ^ (1:Nat)))) b)) (fnK zaT zbZ zbv Q))))));let s2:=(Vector.setIfInBounds (uW ((uV r_)*((2:Nat) ^ (1:Nat)))) (0:Nat) ((List.getD (Vector.toList (uW ((uV r_)*((2:Nat) ^ (1:Nat))))) (0:Nat) (0:UInt64)) ||| (1:UInt64)));(zal (decide ((0:Int)≤n)) ((((0:Int)≤(255:Int))∧((255:Int) < (256:Int)))∧((((-(9223372036854775808:Int))≤(1:Int))∧((1:Int) < (9223372036854775808:Int)))∧((((0:Int)≤n)∧(n < (256:Int)))∧(zal (Nat.testBit (uV a) (Int.toNat n)) ((((0:Int)≤(0:Int))∧((0:Int) < (4:Int)))∧((((0:Int)≤(0:Int))∧((0:Int) < (4:Int)))∧(zal (eqb (Nat.testBit (uV r_) (255:Nat)) false) (zal (bif false then true else(!(subB  s2  b)))  s0  (zat zaT zbu [true,true,false,true,false] zbL (zb7 (w64 (n - (1:Int))) a b q  s2 ) (fnK zaT zbZ zbv Q)))  s0 ))) (zal (eqb (Nat.testBit (uV r_) (255:Nat)) false) (zal (bif false then true else(!(subB (uW ((uV r_)*((2:Nat) ^ (1:Nat)))) b)))  s1  (zat zaT zbu [true,true,false,true,false] zbL (zb7 (w64 (n - (1:Int))) a b q (uW ((uV r_)*((2:Nat) ^ (1:Nat))))) (fnK zaT zbZ zbv Q)))  s1 ))))) (Q (zcz (q,r_,(0:Int)))))):=by kernel_rfl
theorem zdb {r:Vector UInt64 4 × Vector UInt64 4 × Int} {Q:CallOut→Prop} (hQ:Q (zcz r)):∀ k:Nat,(∀ (n:Int) (a:Vector UInt64 4) (b:Vector UInt64 4) (q:Vector UInt64 4) (r_:Vector UInt64 4),big_Over_h0 k n a b q r_=some r→zat zaT zbu [true,true,false,true,false] zbL (zb7 n a b q r_) (fnK zaT zbZ zbv Q))
  | 0=>fun _ _ _ _ _ h=>zcN h
  | k+1=>fun n a b q r_ h=>zau (Eq.mpr (zAJ n a b q r_ Q) (have h:=(big_Over_h0.eq_2 n a b q r_ k).symm.trans h; zae h (fun h=>⟨by decide +kernel,⟨by decide +kernel,zad h fun hc0 h=>zae h (fun h=>⟨by decide +kernel,⟨by decide +kernel,zae h (fun h=>zae h (fun h=>⟨by decide +kernel,zad h fun hc1 h=>⟨by decide +kernel,⟨hc1,(zdb hQ k) _ _ _ _ _ h⟩⟩⟩) (fun h=>(zdb hQ k) _ _ _ _ _ h)) (fun h=>⟨by decide +kernel,zad h fun hc1 h=>⟨by decide +kernel,⟨hc1,(zdb hQ k) _ _ _ _ _ h⟩⟩⟩)⟩⟩) (fun h=>zae h (fun h=>zae h (fun h=>⟨by decide +kernel,zad h fun hc1 h=>⟨by decide +kernel,⟨hc1,(zdb hQ k) _ _ _ _ _ h⟩⟩⟩) (fun h=>(zdb hQ k) _ _ _ _ _ h)) (fun h=>⟨by decide +kernel,zad h fun hc1 h=>⟨by decide +kernel,⟨hc1,(zdb hQ k) _ _ _ _ _ h⟩⟩⟩))⟩⟩) (fun h=>zam (Q:=Q) (e:=zcz) h hQ)))
theorem zDH (a:Vector UInt64 4) (b:Vector UInt64 4) (Q:CallOut→Prop):zab zaT zbu zbZ zbv zbL [.pv (.arr .u64 4 a),.pv (.arr .u64 4 b)] [] Q =
    (zal (decide ((Vector.toList b)=(Vector.toList (Vector.replicate 4 (0:UInt64))))) (Q (zcz ((Vector.replicate 4 (0:UInt64)),(Vector.replicate 4 (0:UInt64)),(2:Int)))) (zat zaT zbu [true,true,false,true,false] zbL (zb7 (w64 ((((lenN (uV a)):Nat):Int) - (1:Int))) a b (Vector.replicate 4 (0:UInt64)) (Vector.replicate 4 (0:UInt64))) (fnK zaT zbZ zbv Q))):=by kernel_rfl
theorem zDq {k:Nat} (a:Vector UInt64 4) (b:Vector UInt64 4) {r} {Q:CallOut→Prop} (h:big_Over k a b=some r) (hQ:Q (zcz r)):zab zaT zbu zbZ zbv zbL [.pv (.arr .u64 4 a),.pv (.arr .u64 4 b)] [] Q :=
  Eq.mpr (zDH a b Q) (have h:=(big_Over.eq_1 k a b).symm.trans h; zae h (fun h=>zam (Q:=Q) (e:=zcz) h hQ) (fun h=>(zdb hQ _) _ _ _ _ _ h))
def zk4:Ans
  | [.pv (.arr .u64 4 a),.pv (.arr .u64 4 b)],[]=>some (none,zcz ((ovQ a b,ovR a b,ovE b)))
  | _,_=>none
theorem zxG:TblOK Tryd.prog theG zoR:=.cons ⟨by kernel_rfl,zoy⟩ (.cons ⟨by kernel_rfl,zCN⟩ (.cons ⟨by kernel_rfl,zmM⟩ (.cons ⟨by kernel_rfl,zfA⟩ (.nil))))
theorem zz9:FnOK Tryd.prog theG 45 (unW zk4):=by
  refine FnOK.ofC (T:=zoR) (nt:=58) (np:=0) (mv:=[]) (nf:=false) (hs:=zbv) (fn:=Tryd.f45) (body:=zbL) zxG (by kernel_rfl) (by kernel_rfl) (by kernel_rfl) (by kernel_rfl) (c:=zk4) (lv:=zbu) ?_
  intro xs mem p out h hp
  unfold zk4 at h
  split at h
  · cases h
    obtain ⟨k,hk⟩:=zxh _ _
    exact zDq _ _ hk rfl
  · cases h
end
end Go.Proofs.YtnolgfdjcipmmaaDoor.M
namespace Go.Proofs.YtnolgfdjcipmmaaDoor.M
open Go
noncomputable section
set_option maxRecDepth 100000
set_option maxHeartbeats 0
noncomputable def zn8:Tbl:=[(27,[],zdG)]
noncomputable def zu7:CfgW:=mkC Tryd.prog theG zn8 14 0 false
def zmz:Nat→List Nat:=fun i=>[]
noncomputable abbrev zos:Code:=Tryd.f29.body.getD .skip
noncomputable abbrev zt0:List ResultVar:=Tryd.f29.results.toList
def zl5:List Nat:=[]
def zeY (r:Bool):CallOut:=⟨.pv (.sc .b r),[],true,[]⟩
theorem zDn (a:Vector UInt64 4) (b:Vector UInt64 4) (Q:CallOut→Prop):zab zu7 zmz zt0 zl5 zos [.pv (.arr .u64 4 a),.pv (.arr .u64 4 b)] [] Q =
    (Q (zeY (subB a b))):=by kernel_rfl
theorem zDM (a:Vector UInt64 4) (b:Vector UInt64 4) {Q:CallOut→Prop} (h:Q (zeY (big_Less a b))):zab zu7 zmz zt0 zl5 zos [.pv (.arr .u64 4 a),.pv (.arr .u64 4 b)] [] Q :=
  Eq.mpr (zDn a b Q) (have h:=Eq.mp (congrArg (fun r=>Q (zeY r)) (big_Less.eq_1 a b)) h; h)
def zeb:Ans
  | [.pv (.arr .u64 4 a),.pv (.arr .u64 4 b)],[]=>some (none,zeY (subB a b))
  | _,_=>none
theorem zzR:TblOK Tryd.prog theG zn8:=.cons ⟨by kernel_rfl,zfA⟩ (.nil)
theorem ziS:FnOK Tryd.prog theG 29 (unW zeb):=by
  refine FnOK.ofC (T:=zn8) (nt:=14) (np:=0) (mv:=[]) (nf:=false) (hs:=zl5) (fn:=Tryd.f29) (body:=zos) zzR (by kernel_rfl) (by kernel_rfl) (by kernel_rfl) (by kernel_rfl) (c:=zeb) (lv:=zmz) ?_
  intro xs mem p out h hp
  unfold zeb at h
  split at h
  · cases h
    exact zDM _ _ (congrArg zeY (zvL _ _))
  · cases h
end
end Go.Proofs.YtnolgfdjcipmmaaDoor.M
namespace Go.Proofs.YtnolgfdjcipmmaaDoor.M
open Go
noncomputable section
set_option maxRecDepth 100000
set_option maxHeartbeats 0
noncomputable def zrO:Tbl:=[(84,[],zgx)]
noncomputable def zcQ:CfgW:=mkC Tryd.prog theG zrO 37 0 false
def zdX:Nat→List Nat:=fun i=>bif Nat.beq i 0 then [1,2,4,6,11]else []
noncomputable abbrev zf3:Code:=Tryd.f72.body.getD .skip
noncomputable abbrev zhM:List ResultVar:=Tryd.f72.results.toList
def zd3:List Nat:=[]
def zfS (r:Vector UInt64 4 × UInt64):CallOut:=⟨.tup [.pv (.arr .u64 4 r.1),.pv (.sc .u64 r.2)],[],true,[]⟩
def zk8 (n:UInt64) (carry:UInt64) (t11:Int) (a:Vector UInt64 4) (t4:Vector UInt64 4):St:=⟨[(1,.pv (.sc .u64 n)),(2,.p 60000 []),(4,.p 60001 []),(6,.pv (.sc .u64 carry)),(11,.pv (.sc .i t11))],[(60000,.box (.pv (.arr .u64 4 a))),(60001,.box (.pv (.arr .u64 4 t4)))]⟩
theorem zDp (n:UInt64) (carry:UInt64) (t11:Int) (a:Vector UInt64 4) (t4:Vector UInt64 4) (Q:CallOut→Prop):zaB zcQ zdX [true,true,false,true,false] zf3 (zk8 n carry t11 a t4) (fnK zcQ zhM zd3 Q) =
    (zal (decide (t11 < (4:Int))) ((((0:Int)≤t11)∧(t11 < (4:Int)))∧(((0:Nat)≤(1:Nat))∧((((0:Int)≤t11)∧(t11 < (4:Int)))∧(zat zcQ zdX [true,true,false,true,false] zf3 (zk8 n ((zvP (List.getD (Vector.toList a) (Int.toNat t11) (0:UInt64)) n)+(zhu (zqb (List.getD (Vector.toList a) (Int.toNat t11) (0:UInt64)) n) carry (0:UInt64))) (w64 (t11+(1:Int))) (Vector.setIfInBounds a (Int.toNat t11) (((zqb (List.getD (Vector.toList a) (Int.toNat t11) (0:UInt64)) n)+carry)+(0:UInt64))) t4) (fnK zcQ zhM zd3 Q))))) (Q (zfS (a,carry)))):=by kernel_rfl
theorem zuN {r:Vector UInt64 4 × UInt64} {Q:CallOut→Prop} (hQ:Q (zfS r)):∀ k:Nat,(∀ (n:UInt64) (carry:UInt64) (t11:Int) (a:Vector UInt64 4) (t4:Vector UInt64 4),big_Mul_h0 k n carry t11 a t4=some r→zat zcQ zdX [true,true,false,true,false] zf3 (zk8 n carry t11 a t4) (fnK zcQ zhM zd3 Q))
  | 0=>fun _ _ _ _ _ h=>zcN h
  | k+1=>fun n carry t11 a t4 h=>zau (Eq.mpr (zDp n carry t11 a t4 Q) (have h:=(big_Mul_h0.eq_2 n carry t11 a t4 k).symm.trans h; zae h (fun h=>zad h fun hc0 h=>⟨by decide +kernel,⟨hc0,(zuN hQ k) _ _ _ _ _ h⟩⟩) (fun h=>zam (Q:=Q) (e:=zfS) h hQ)))
theorem zET (a:Vector UInt64 4) (n:UInt64) (Q:CallOut→Prop):zab zcQ zdX zhM zd3 zf3 [.pv (.arr .u64 4 a),.pv (.sc .u64 n)] [] Q =
    (zat zcQ zdX [true,true,false,true,false] zf3 (zk8 n (0:UInt64) (0:Int) a (Vector.replicate 4 (0:UInt64))) (fnK zcQ zhM zd3 Q)):=by kernel_rfl
theorem zEZ {k:Nat} (a:Vector UInt64 4) (n:UInt64) {r} {Q:CallOut→Prop} (h:big_Mul k a n=some r) (hQ:Q (zfS r)):zab zcQ zdX zhM zd3 zf3 [.pv (.arr .u64 4 a),.pv (.sc .u64 n)] [] Q :=
  Eq.mpr (zET a n Q) (have h:=(big_Mul.eq_1 k a n).symm.trans h; (zuN hQ _) _ _ _ _ _ h)
def zmZ:Ans
  | [.pv (.arr .u64 4 a),.pv (.sc .u64 n)],[]=>some (none,zfS ((uW (uV a*n.toNat),mulC a n)))
  | _,_=>none
theorem zAO:TblOK Tryd.prog theG zrO:=.cons ⟨by kernel_rfl,zwt⟩ (.nil)
theorem zCK:FnOK Tryd.prog theG 72 (unW zmZ):=by
  refine FnOK.ofC (T:=zrO) (nt:=37) (np:=0) (mv:=[]) (nf:=false) (hs:=zd3) (fn:=Tryd.f72) (body:=zf3) zAO (by kernel_rfl) (by kernel_rfl) (by kernel_rfl) (by kernel_rfl) (c:=zmZ) (lv:=zdX) ?_
  intro xs mem p out h hp
  unfold zmZ at h
  split at h
  · cases h
    obtain ⟨k,hk⟩:=zzV _ _
    exact zEZ _ _ hk rfl
  · cases h
end
end Go.Proofs.YtnolgfdjcipmmaaDoor.M
namespace Go.Proofs.YtnolgfdjcipmmaaDoor.M
open Go
noncomputable section
set_option maxRecDepth 100000
set_option maxHeartbeats 0
noncomputable def zq2:Tbl:=[(85,[],zgA)]
noncomputable def zcV:CfgW:=mkC Tryd.prog theG zq2 29 0 false
def zeh:Nat→List Nat:=fun i=>bif Nat.beq i 0 then [1,2,4,7,8]else []
noncomputable abbrev zfM:Code:=Tryd.f73.body.getD .skip
noncomputable abbrev zhD:List ResultVar:=Tryd.f73.results.toList
def zd0:List Nat:=[]
def zdg (r:Vector UInt64 4 × UInt64 × Int):CallOut:=⟨.tup [.pv (.arr .u64 4 r.1),.pv (.sc .u64 r.2.1),.pv (.sc .i r.2.2)],[],true,[]⟩
def zk6 (n:UInt64) (left:UInt64) (i:Int) (a:Vector UInt64 4) (t4:Vector UInt64 4):St:=⟨[(1,.pv (.sc .u64 n)),(2,.p 60000 []),(4,.p 60001 []),(7,.pv (.sc .u64 left)),(8,.pv (.sc .i i))],[(60000,.box (.pv (.arr .u64 4 a))),(60001,.box (.pv (.arr .u64 4 t4)))]⟩
theorem zCX (n:UInt64) (left:UInt64) (i:Int) (a:Vector UInt64 4) (t4:Vector UInt64 4) (Q:CallOut→Prop):zaB zcV zeh [true,true,true,false,true,false] zfM (zk6 n left i a t4) (fnK zcV zhD zd0 Q) =
    (zal (decide ((0:Int)≤i)) ((((0:Int)≤i)∧(i < (4:Int)))∧(((UInt64.toNat left) < (UInt64.toNat n))∧((((0:Int)≤i)∧(i < (4:Int)))∧(zat zcV zeh [true,true,true,false,true,false] zfM (zk6 n (UInt64.ofNat ((((UInt64.toNat left)*(18446744073709551616:Nat))+(UInt64.toNat (List.getD (Vector.toList a) (Int.toNat i) (0:UInt64)))) % (UInt64.toNat n))) (w64 (i - (1:Int))) (Vector.setIfInBounds a (Int.toNat i) (UInt64.ofNat ((((UInt64.toNat left)*(18446744073709551616:Nat))+(UInt64.toNat (List.getD (Vector.toList a) (Int.toNat i) (0:UInt64)))) / (UInt64.toNat n)))) t4) (fnK zcV zhD zd0 Q))))) (Q (zdg (a,left,(0:Int))))):=by kernel_rfl
theorem zu1 {r:Vector UInt64 4 × UInt64 × Int} {Q:CallOut→Prop} (hQ:Q (zdg r)):∀ k:Nat,(∀ (n:UInt64) (left:UInt64) (i:Int) (a:Vector UInt64 4) (t4:Vector UInt64 4),big_Div_h0 k n left i a t4=some r→zat zcV zeh [true,true,true,false,true,false] zfM (zk6 n left i a t4) (fnK zcV zhD zd0 Q))
  | 0=>fun _ _ _ _ _ h=>zcN h
  | k+1=>fun n left i a t4 h=>zau (Eq.mpr (zCX n left i a t4 Q) (have h:=(big_Div_h0.eq_2 n left i a t4 k).symm.trans h; zae h (fun h=>zad h fun hc0 h=>zad h fun hc1 h=>⟨hc0,(zu1 hQ k) _ _ _ _ _ h⟩) (fun h=>zam (Q:=Q) (e:=zdg) h hQ)))
theorem zFw (a:Vector UInt64 4) (n:UInt64) (Q:CallOut→Prop):zab zcV zeh zhD zd0 zfM [.pv (.arr .u64 4 a),.pv (.sc .u64 n)] [] Q =
    (zal (decide (n=(0:UInt64))) (Q (zdg ((Vector.replicate 4 (0:UInt64)),(0:UInt64),(2:Int)))) (zat zcV zeh [true,true,true,false,true,false] zfM (zk6 n (0:UInt64) (3:Int) a (Vector.replicate 4 (0:UInt64))) (fnK zcV zhD zd0 Q))):=by kernel_rfl
theorem zFi {k:Nat} (a:Vector UInt64 4) (n:UInt64) {r} {Q:CallOut→Prop} (h:big_Div k a n=some r) (hQ:Q (zdg r)):zab zcV zeh zhD zd0 zfM [.pv (.arr .u64 4 a),.pv (.sc .u64 n)] [] Q :=
  Eq.mpr (zFw a n Q) (have h:=(big_Div.eq_1 k a n).symm.trans h; zae h (fun h=>zam (Q:=Q) (e:=zdg) h hQ) (fun h=>(zu1 hQ _) _ _ _ _ _ h))
def zng:Ans
  | [.pv (.arr .u64 4 a),.pv (.sc .u64 n)],[]=>some (none,zdg ((uW (uV a / n.toNat),divR a n,divE n)))
  | _,_=>none
theorem zA6:TblOK Tryd.prog theG zq2:=.cons ⟨by kernel_rfl,zxd⟩ (.nil)
theorem zDN:FnOK Tryd.prog theG 73 (unW zng):=by
  refine FnOK.ofC (T:=zq2) (nt:=29) (np:=0) (mv:=[]) (nf:=false) (hs:=zd0) (fn:=Tryd.f73) (body:=zfM) zA6 (by kernel_rfl) (by kernel_rfl) (by kernel_rfl) (by kernel_rfl) (c:=zng) (lv:=zeh) ?_
  intro xs mem p out h hp
  unfold zng at h
  split at h
  · cases h
    obtain ⟨k,hk⟩:=zzw _ _
    exact zFi _ _ hk rfl
  · cases h
end
end Go.Proofs.YtnolgfdjcipmmaaDoor.M
