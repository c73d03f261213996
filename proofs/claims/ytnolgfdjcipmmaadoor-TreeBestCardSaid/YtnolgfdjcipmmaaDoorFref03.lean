/- Part of the proofs: what functions of the program do: plain functions, and the walks that show it. No condition. -/
import Derived.KernelRfl
import Derived.Test.YtnolgfdjcipmmaaDoorProg
import Derived.Test.YtnolgfdjcipmmaaDoorLe
import Derived.Test.YtnolgfdjcipmmaaDoorSwords
import Derived.Test.YtnolgfdjcipmmaaDoorSbigS
import Derived.Test.YtnolgfdjcipmmaaDoorSbigB
import Derived.Test.YtnolgfdjcipmmaaDoorSshaK
set_option linter.unusedVariables false
set_option linter.unusedSimpArgs false
set_option autoImplicit false
namespace Go.Proofs.YtnolgfdjcipmmaaDoor.M
open Go
noncomputable section
def ref03_OfHash_h0:Nat→Int→(Vector UInt8 32)→(Vector UInt64 4)→(Vector UInt64 4)→Option (Vector UInt64 4)
 | 0,_,_,_,_=>none
 | k+1,i,h_,t2,a=>bif decide ((0:Int)≤i) then(if((0:Int)≤(w64 (Int.tdiv i (8:Int))))∧((w64 (Int.tdiv i (8:Int))) < (4:Int)) then
    if((0:Int)≤i)∧(i < (32:Int)) then
     ref03_OfHash_h0 k (w64 (i - (1:Int))) h_ t2 (Vector.setIfInBounds a (Int.toNat (w64 (Int.tdiv i (8:Int)))) (((256:UInt64)*(List.getD (Vector.toList a) (Int.toNat (w64 (Int.tdiv i (8:Int)))) (0:UInt64)))+(UInt8.toUInt64 (List.getD (Vector.toList h_) (Int.toNat i) (0:UInt8)))))
    else none
   else none)
   else(some a)
def ref03_OfHash (k:Nat) (h_0:Vector UInt8 32):Option (Vector UInt64 4) :=
 ref03_OfHash_h0 k (31:Int) h_0 (Vector.replicate 4 (0:UInt64)) (Vector.replicate 4 (0:UInt64))
theorem zoi (h:Vector UInt8 32):∃ k,ref03_OfHash k h=some (uW (numU (Vector.toList h))):=by
 show Ev (fun k=>ref03_OfHash k h) _
 refine Ev.same (fun k=>ref03_OfHash.eq_1 k h) ?_
 have:=Ev.dwn (H:=fun k i a=>ref03_OfHash_h0 k i h (Vector.replicate 4 0) a) (n:=32) (r:=uW (numU (Vector.toList h)))
  (fun i a=>∀ j t,j < 4→t < 64→(gW a j).testBit t=(decide (max i (8*j)+t / 8 < 8*j+8) && (numU (Vector.toList h)).testBit (8*(max i (8*j))+t))) ?_ ?_ 32 (Vector.replicate 4 0) (Nat.le_refl _) ?_
 ·exact this
 ·intro i a hi hv next
  have ed:Int.tdiv (i:Int) 8=((i / 8:Nat):Int):=rfl
  refine Ev.step (fun k=>?_) (next (Vector.setIfInBounds a (i / 8) ((256:UInt64)*List.getD (Vector.toList a) (i / 8) 0+UInt8.toUInt64 (List.getD (Vector.toList h) i 0))) ?_)
  ·rw[ref03_OfHash_h0.eq_2,zan (by omega),ed,zgo (by omega),if_pos (by omega),if_pos (by omega),zaj (by omega) (by omega),Int.toNat_natCast,Int.toNat_natCast]
  ·intro j t hj ht
   rw[znR _ _ _ _ (by omega)]
   by_cases e:i / 8=j
   ·have hb:(List.getD (Vector.toList h) i 0).toNat < 2 ^ 8:=(List.getD (Vector.toList h) i 0).toNat_lt
    have val:((256:UInt64)*List.getD (Vector.toList a) (i / 8) 0+UInt8.toUInt64 (List.getD (Vector.toList h) i 0)).toNat=(2 ^ 8*gW a j+(List.getD (Vector.toList h) i 0).toNat) % 2 ^ 64:=by
     rw[UInt64.toNat_add,UInt64.toNat_mul,ze9,e,UInt8.toNat_toUInt64,show (256:UInt64).toNat=256 from rfl]
     omega
    rw[if_pos e,val,Nat.testBit_mod_two_pow,decide_eq_true ht,Bool.true_and,Nat.testBit_two_pow_mul_add _ hb,show max i (8*j)=i by omega]
    by_cases c:t < 8
    ·rw[if_pos c,decide_eq_true (by omega),Bool.true_and,zwP]
     rw[show (8*i+t) / 8=i by omega,show (8*i+t) % 8=t by omega]
    ·rw[if_neg c,hv j (t - 8) hj (by omega),show max (i+1) (8*j)=i+1 by omega]
     congr 1
     ·rw[decide_eq_decide]; omega
     ·congr 1; omega
   ·rw[if_neg e,hv j t hj ht]
    by_cases c:i < 8*j
    ·rw[show max (i+1) (8*j)=8*j by omega,show max i (8*j)=8*j by omega]
    ·rw[decide_eq_false (by omega),decide_eq_false (by omega),Bool.false_and,Bool.false_and]
 ·intro a hv
  refine Ev.done fun k=>?_
  show ref03_OfHash_h0 (k+1) _ _ _ _=_
  rw[ref03_OfHash_h0.eq_2,zau (by omega)]
  refine congrArg some (vecI fun j t hj ht=>?_)
  rw[hv j t hj ht,decide_eq_true (by omega),Bool.true_and,show max 0 (8*j)=8*j by omega]
  congr 1; omega
 ·intro j t hj ht
  rw[zn1,decide_eq_false (by omega),Bool.false_and,Nat.zero_testBit]
theorem zoY (h:Vector UInt8 32):∃ k,ref03_OfHash k h=some (zjY h):=by
 rw[zDm]
 exact zoi h
end
end Go.Proofs.YtnolgfdjcipmmaaDoor.M
namespace Go.Proofs.YtnolgfdjcipmmaaDoor.M
open Go
noncomputable section
def ref03_Of (n:UInt64):Vector UInt64 4 :=
 (Vector.setIfInBounds (Vector.replicate 4 (0:UInt64)) (0:Nat) n)
theorem zxV (n:UInt64):ref03_Of n=uW n.toNat:=by
 have hn:=n.toNat_lt
 refine zEz fun q hq=>?_
 rw[zii _ _ hq]
 unfold ref03_Of gW
 rw[zax _ _ _ _ _ (by omega),zjB]
 have:q=0∨q=1∨q=2∨q=3:=by omega
 rcases this with h | h | h | h<;>subst h<;>simp<;>omega
end
end Go.Proofs.YtnolgfdjcipmmaaDoor.M
namespace Go.Proofs.YtnolgfdjcipmmaaDoor.M
open Go
noncomputable section
def ref03_ToHash_h0:Nat→Int→(Vector UInt64 4)→(Vector UInt8 32)→(Vector UInt8 32)→Option (Vector UInt8 32)
 | 0,_,_,_,_=>none
 | k+1,i,a,t2,h_=>bif decide (i < (32:Int)) then(if((0:Int)≤(w64 (Int.tdiv i (8:Int))))∧((w64 (Int.tdiv i (8:Int))) < (4:Int)) then
    if((0:Int)≤i)∧(i < (32:Int)) then
     ref03_ToHash_h0 k (w64 (i+(1:Int))) (Vector.setIfInBounds a (Int.toNat (w64 (Int.tdiv i (8:Int)))) ((List.getD (Vector.toList a) (Int.toNat (w64 (Int.tdiv i (8:Int)))) (0:UInt64)) / (256:UInt64))) t2 (Vector.setIfInBounds h_ (Int.toNat i) (UInt64.toUInt8 ((List.getD (Vector.toList a) (Int.toNat (w64 (Int.tdiv i (8:Int)))) (0:UInt64)) % (256:UInt64))))
    else none
   else none)
   else(some h_)
def ref03_ToHash (k:Nat) (a:Vector UInt64 4):Option (Vector UInt8 32) :=
 ref03_ToHash_h0 k (0:Int) a (Vector.replicate 32 (0:UInt8)) (Vector.replicate 32 (0:UInt8))
theorem zo7 (a:Vector UInt64 4):∃ k,ref03_ToHash k a=some (zlX (uV a)):=by
 show Ev (fun k=>ref03_ToHash k a) _
 refine Ev.same (fun k=>ref03_ToHash.eq_1 k a) ?_
 refine Ev.inv (H:=fun k i (s:Vector UInt64 4 × Vector UInt8 32)=>ref03_ToHash_h0 k i s.1 (Vector.replicate 32 0) s.2) (n:=32)
  (fun i s=>(∀ j t,j < 4→t < 64→(gW s.1 j).testBit t=(decide (8*(i - 8*j)+t < 64) && (uV a).testBit (64*j+(8*(i - 8*j)+t))))∧∀ j t,j < i→t < 8→(List.getD (Vector.toList s.2) j 0).toNat.testBit t=(uV a).testBit (8*j+t)) ?_ ?_ 32 0 (a,_) rfl ?_
 ·intro i s hi hv next
  obtain ⟨hv,hw⟩:=hv
  have ed:Int.tdiv (i:Int) 8=((i / 8:Nat):Int):=rfl
  refine Ev.step (fun k=>?_) (next (Vector.setIfInBounds s.1 (i / 8) (List.getD (Vector.toList s.1) (i / 8) 0 / 256),Vector.setIfInBounds s.2 i (UInt64.toUInt8 (List.getD (Vector.toList s.1) (i / 8) 0 % 256))) ⟨?_,?_⟩)
  ·rw[ref03_ToHash_h0.eq_2,zan (by omega),ed,zgo (by omega),if_pos (by omega),if_pos (by omega),zaj (by omega) (by omega),Int.toNat_natCast,Int.toNat_natCast]
  ·intro j t hj ht
   show (gW (Vector.setIfInBounds s.1 (i / 8) _) j).testBit t=_
   rw[znR _ _ _ _ (by omega)]
   by_cases e:i / 8=j
   ·rw[if_pos e,UInt64.toNat_div,ze9,show (256:UInt64).toNat=2 ^ 8 from rfl,Nat.testBit_div_two_pow,e]
    by_cases c:t+8 < 64
    ·rw[hv j (t+8) hj c]
     congr 1
     ·rw[decide_eq_decide]; omega
     ·congr 1; omega
    ·rw[zBg _ _ _ (by omega),decide_eq_false (by omega),Bool.false_and]
   ·rw[if_neg e,hv j t hj ht]
    by_cases c:i < 8*j
    ·rw[show i+1 - 8*j=i - 8*j by omega]
    ·rw[decide_eq_false (by omega),decide_eq_false (by omega),Bool.false_and,Bool.false_and]
  ·intro j t hj ht
   show (List.getD (Vector.toList (Vector.setIfInBounds s.2 i _)) j 0).toNat.testBit t=_
   rw[zax _ _ _ _ _ hi]
   by_cases e:i=j
   ·subst e
    rw[if_pos rfl,UInt64.toNat_toUInt8,UInt64.toNat_mod,show (256:UInt64).toNat=2 ^ 8 from rfl,Nat.mod_mod,Nat.testBit_mod_two_pow,decide_eq_true ht,Bool.true_and,ze9,hv _ _ (by omega) (by omega),decide_eq_true (by omega),Bool.true_and]
    congr 1; omega
   ·rw[if_neg e]
    exact hw j t (by omega) ht
 ·intro s hv
  refine Ev.done fun k=>?_
  show ref03_ToHash_h0 (k+1) _ _ _ _=_
  rw[ref03_ToHash_h0.eq_2,zau (by omega)]
  exact congrArg some (zGW hv.2)
 ·refine ⟨fun j t hj ht=>?_,fun j t hj ht=>by omega⟩
  rw[zvn _ _ _ hj ht,decide_eq_true (by omega),Bool.true_and]
  congr 1; omega
end
end Go.Proofs.YtnolgfdjcipmmaaDoor.M
namespace Go.Proofs.YtnolgfdjcipmmaaDoor.M
open Go
noncomputable section
mutual
def ref03_Bits_h0:Nat→Int→(Vector UInt64 4)→(Vector Bool 256)→(Vector Bool 256)→Option (Vector Bool 256)
 | 0,_,_,_,_=>none
 | k+1,i,a,t2,l=>bif decide (i < (256:Int)) then(if((0:Int)≤(w64 (Int.tdiv i (64:Int))))∧((w64 (Int.tdiv i (64:Int))) < (4:Int)) then
    ref03_Bits_h2 k i (List.getD (Vector.toList a) (Int.toNat (w64 (Int.tdiv i (64:Int)))) (0:UInt64)) (0:Int) a t2 l
   else none)
   else(some l)
def ref03_Bits_h2:Nat→Int→UInt64→Int→(Vector UInt64 4)→(Vector Bool 256)→(Vector Bool 256)→Option (Vector Bool 256)
 | 0,_,_,_,_,_,_=>none
 | k+1,i,n,k_,a,t2,l=>bif decide (k_ < (Int.tmod i (64:Int))) then(ref03_Bits_h2 k i (n / (2:UInt64)) (w64 (k_+(1:Int))) a t2 l)
   else(if((0:Int)≤i)∧(i < (256:Int)) then
    ref03_Bits_h0 k (w64 (i+(1:Int))) a t2 (Vector.setIfInBounds l (Int.toNat i) (decide ((n % (2:UInt64))=(1:UInt64))))
   else none)
end
def ref03_Bits (k:Nat) (a:Vector UInt64 4):Option (Vector Bool 256) :=
 ref03_Bits_h0 k (0:Int) a (Vector.replicate 256 false) (Vector.replicate 256 false)
theorem zsH (a:Vector UInt64 4):∃ k,ref03_Bits k a=some (zbp (uV a)):=by
 show Ev (fun k=>ref03_Bits k a) _
 refine Ev.same (fun k=>ref03_Bits.eq_1 k a) ?_
 have inner:∀ (i:Nat),i < 256→∀ (l:Vector Bool 256) (r:Vector Bool 256),Ev (fun f=>ref03_Bits_h0 f ((i:Int)+1) a (Vector.replicate 256 false) (Vector.setIfInBounds l i ((uV a).testBit i))) r →
   Ev (fun f=>ref03_Bits_h2 f i (List.getD (Vector.toList a) (i / 64) 0) 0 a (Vector.replicate 256 false) l) r:=by
  intro i hi l r e
  have gen:∀ j k,k+j=i % 64→∀ n:UInt64,n.toNat=gW a (i / 64) / 2 ^ k→Ev (fun f=>ref03_Bits_h2 f i n ((k:Nat):Int) a (Vector.replicate 256 false) l) r:=by
   have em:Int.tmod (i:Int) 64=((i % 64:Nat):Int):=rfl
   intro j
   induction j with
   | zero =>
    intro k hk n hn
    refine Ev.step (fun f=>?_) e
    have hb:decide (n % 2=1)=(uV a).testBit i:=by
     rw[zrz a i hi,Nat.testBit_eq_decide_div_mod_eq]
     rw[decide_eq_decide,←UInt64.toNat_inj,UInt64.toNat_mod,hn]
     rw[show k=i % 64 by omega]
     rfl
    rw[ref03_Bits_h2.eq_2,em,zau (by omega),if_pos (by omega),hb,Int.toNat_natCast,zaj (by omega) (by omega)]
   | succ j ih =>
    intro k hk n hn
    refine Ev.step (fun f=>?_) (ih (k+1) (by omega) (n / 2) ?_)
    ·rw[ref03_Bits_h2.eq_2,em,zan (by omega),zaj (by omega) (by omega)]
     rfl
    ·rw[UInt64.toNat_div,hn,Nat.pow_succ,←Nat.div_div_eq_div_mul]
     rfl
  exact gen (i % 64) 0 (by omega) _ (by rw[Nat.pow_zero,Nat.div_one]; rfl)
 refine Ev.up (H:=fun k i l=>ref03_Bits_h0 k i a (Vector.replicate 256 false) l) (lo:=0) (n:=256) (step:=fun i l=>Vector.setIfInBounds l i ((uV a).testBit i)) ?_ 256 0 _ (Nat.le_refl 0) rfl ?_
 ·intro i l _ hi e
  have ed:Int.tdiv (i:Int) 64=((i / 64:Nat):Int):=rfl
  refine Ev.step (fun f=>?_) (inner i hi l _ e)
  rw[ref03_Bits_h0.eq_2,zan (by omega),ed,zaj (by omega) (by omega),if_pos (by omega),Int.toNat_natCast]
 ·refine Ev.done fun f=>?_
  rw[ref03_Bits_h0.eq_2,zau (by omega),znz (fun i=>(uV a).testBit i)]
  rfl
end
end Go.Proofs.YtnolgfdjcipmmaaDoor.M
namespace Go.Proofs.YtnolgfdjcipmmaaDoor.M
open Go
noncomputable section
def ref03_sum_h0:Nat→Bool→Int→(Vector Bool 256)→(Vector Bool 256)→(Vector Bool 256)→(Vector Bool 256)→Option (Vector Bool 256 × Bool)
 | 0,_,_,_,_,_,_=>none
 | k+1,carry,i,x_,y,t6,out=>bif decide (i < (256:Int)) then(if((0:Int)≤i)∧(i < (256:Int)) then
    bif List.getD (Vector.toList x_) (Int.toNat i) false then(bif List.getD (Vector.toList y) (Int.toNat i) false then(bif carry then(ref03_sum_h0 k (decide ((2:Int)≤(3:Int))) (w64 (i+(1:Int))) x_ y t6 (Vector.setIfInBounds out (Int.toNat i) (decide ((1:Int)=(1:Int)))))
       else(ref03_sum_h0 k (decide ((2:Int)≤(2:Int))) (w64 (i+(1:Int))) x_ y t6 (Vector.setIfInBounds out (Int.toNat i) (decide ((0:Int)=(1:Int))))))
      else(bif carry then(ref03_sum_h0 k (decide ((2:Int)≤(2:Int))) (w64 (i+(1:Int))) x_ y t6 (Vector.setIfInBounds out (Int.toNat i) (decide ((0:Int)=(1:Int)))))
       else(ref03_sum_h0 k (decide ((2:Int)≤(1:Int))) (w64 (i+(1:Int))) x_ y t6 (Vector.setIfInBounds out (Int.toNat i) (decide ((1:Int)=(1:Int)))))))
     else(bif List.getD (Vector.toList y) (Int.toNat i) false then(bif carry then(ref03_sum_h0 k (decide ((2:Int)≤(2:Int))) (w64 (i+(1:Int))) x_ y t6 (Vector.setIfInBounds out (Int.toNat i) (decide ((0:Int)=(1:Int)))))
       else(ref03_sum_h0 k (decide ((2:Int)≤(1:Int))) (w64 (i+(1:Int))) x_ y t6 (Vector.setIfInBounds out (Int.toNat i) (decide ((1:Int)=(1:Int))))))
      else(bif carry then(ref03_sum_h0 k (decide ((2:Int)≤(1:Int))) (w64 (i+(1:Int))) x_ y t6 (Vector.setIfInBounds out (Int.toNat i) (decide ((1:Int)=(1:Int)))))
       else(ref03_sum_h0 k (decide ((2:Int)≤(0:Int))) (w64 (i+(1:Int))) x_ y t6 (Vector.setIfInBounds out (Int.toNat i) (decide ((0:Int)=(1:Int)))))))
   else none)
   else(some (out,carry))
def ref03_sum (k:Nat) (x_0:Vector Bool 256) (y:Vector Bool 256) (carry:Bool):Option (Vector Bool 256 × Bool) :=
 ref03_sum_h0 k carry (0:Int) x_0 y (Vector.replicate 256 false) (Vector.replicate 256 false)
theorem ztU (x y:Vector Bool 256) (c:Bool):∃ k,ref03_sum k x y c=some (sumS x y c):=by
 show Ev (fun k=>ref03_sum k x y c) _
 refine Ev.same (fun k=>ref03_sum.eq_1 k x y c) ?_
 have hC:c.toNat≤1:=by cases c<;>decide
 let cr:Nat→Bool:=fun i=>decide (2 ^ i≤bV x % 2 ^ i+bV y % 2 ^ i+c.toNat)
 have gen:∀ j i out,i+j=256→(∀ k,k < i→List.getD (Vector.toList out) k false=(bV x+bV y+c.toNat).testBit k)→Ev (fun f=>ref03_sum_h0 f (cr i) i x y (Vector.replicate 256 false) out) (sumS x y c):=by
  intro j
  induction j with
  | zero =>
   intro i out hi h
   obtain rfl:i=256:=by omega
   refine Ev.done fun f=>?_
   rw[ref03_sum_h0.eq_2,zau (by omega)]
   unfold sumS
   refine congrArg some (Prod.ext (vext false fun k hk=>?_) ?_)
   ·rw[h k hk,zih _ _ hk]
   ·show decide _=decide _
    rw[Nat.mod_eq_of_lt (zIS x),Nat.mod_eq_of_lt (zIS y),zdD]
  | succ j ih =>
   intro i out hi h
   obtain ⟨s1,s2⟩:=zH2 (X:=bV x) (Y:=bV y) (i:=i) hC (cr i) rfl
   have hn:=ih (i+1) (Vector.setIfInBounds out i ((bV x+bV y+c.toNat).testBit i)) (by omega) (fun k hk=>by
    rw[zax _ _ _ _ _ (by omega)]
    by_cases e:i=k
    ·subst e; rw[if_pos rfl]
    ·rw[if_neg e]; exact h k (by omega))
   refine Ev.step (fun f=>?_) hn
   have hcr:cr (i+1)=decide (2≤(cr i).toNat+((bV x).testBit i).toNat+((bV y).testBit i).toNat):=s2
   rw[hcr,s1,ref03_sum_h0.eq_2,zan (by omega),if_pos (by omega),Int.toNat_natCast,zaj (by omega) (by omega),←zj5,←zj5]
   cases (bV x).testBit i<;>cases (bV y).testBit i<;>cases cr i<;>rfl
 have h0:cr 0=c:=by
  show decide _=c
  rw[Nat.pow_zero,Nat.mod_one,Nat.mod_one]
  cases c<;>rfl
 have:=gen 256 0 (Vector.replicate 256 false) rfl (fun k hk=>by omega)
 rw[h0]at this
 exact this
end
end Go.Proofs.YtnolgfdjcipmmaaDoor.M
namespace Go.Proofs.YtnolgfdjcipmmaaDoor.M
open Go
noncomputable section
def ref03_Number_h0:Nat→Int→(Vector Bool 256)→(Vector UInt64 4)→(Vector UInt64 4)→Option (Vector UInt64 4)
 | 0,_,_,_,_=>none
 | k+1,i,l,t2,a=>bif decide ((0:Int)≤i) then(if((0:Int)≤(w64 (Int.tdiv i (64:Int))))∧((w64 (Int.tdiv i (64:Int))) < (4:Int)) then
    if(
      (0:Int)≤i)∧(i < (256:Int)) then
     bif List.getD (Vector.toList l) (Int.toNat i) false then(ref03_Number_h0 k (w64 (i - (1:Int))) l t2 (Vector.setIfInBounds (Vector.setIfInBounds a (Int.toNat (w64 (Int.tdiv i (64:Int)))) ((2:UInt64)*(List.getD (Vector.toList a) (Int.toNat (w64 (Int.tdiv i (64:Int)))) (0:UInt64)))) (Int.toNat (w64 (Int.tdiv i (64:Int)))) ((List.getD (Vector.toList (Vector.setIfInBounds a (Int.toNat (w64 (Int.tdiv i (64:Int)))) ((2:UInt64)*(List.getD (Vector.toList a) (Int.toNat (w64 (Int.tdiv i (64:Int)))) (0:UInt64))))) (Int.toNat (w64 (Int.tdiv i (64:Int)))) (0:UInt64))+(1:UInt64))))
      else(ref03_Number_h0 k (w64 (i - (1:Int))) l t2 (Vector.setIfInBounds a (Int.toNat (w64 (Int.tdiv i (64:Int)))) ((2:UInt64)*(List.getD (Vector.toList a) (Int.toNat (w64 (Int.tdiv i (64:Int)))) (0:UInt64)))))
    else none
   else none)
   else(some a)
def ref03_Number (k:Nat) (l:Vector Bool 256):Option (Vector UInt64 4) :=
 ref03_Number_h0 k (255:Int) l (Vector.replicate 4 (0:UInt64)) (Vector.replicate 4 (0:UInt64))
theorem zpx (l:Vector Bool 256):∃ k,ref03_Number k l=some (uW (bV l)):=by
 show Ev (fun k=>ref03_Number k l) _
 refine Ev.same (fun k=>ref03_Number.eq_1 k l) ?_
 let Inv:Nat→Vector UInt64 4→Prop:=fun i a=>∀ q,q < 4→gW a q=if i≤64*q then bV l / 2 ^ (64*q) % 18446744073709551616 else if i < 64*(q+1)then bV l / 2 ^ i % 2 ^ (64*(q+1) - i)else 0
 have gen:∀ i a,i≤256→Inv i a→Ev (fun f=>ref03_Number_h0 f ((i:Int) - 1) l (Vector.replicate 4 0) a) (uW (bV l)):=by
  intro i
  induction i with
  | zero =>
   intro a _ h
   refine Ev.done fun f=>?_
   rw[ref03_Number_h0.eq_2,zau (by omega)]
   refine congrArg some (zEz fun q hq=>?_)
   rw[h q hq,if_pos (by omega),zii _ _ hq,Nat.pow_mul]
  | succ i ih =>
   intro a hi h
   have ed:Int.tdiv (i:Int) 64=((i / 64:Nat):Int):=rfl
   have hq0:i / 64 < 4:=by omega
   have hold:=h (i / 64) hq0
   have hbit:(List.getD (Vector.toList l) i false).toNat=bV l / 2 ^ i % 2:=by rw[←zj5,zGI]
   have hnew:2*gW a (i / 64)+(List.getD (Vector.toList l) i false).toNat=if i≤64*(i / 64)then bV l / 2 ^ (64*(i / 64)) % 18446744073709551616 else bV l / 2 ^ i % 2 ^ (64*(i / 64+1) - i):=by
    have e:(if i≤64*(i / 64)then bV l / 2 ^ (64*(i / 64)) % 18446744073709551616 else bV l / 2 ^ i % 2 ^ (64*(i / 64+1) - i))=bV l / 2 ^ i % 2 ^ (64*(i / 64+1) - i):=by
     split
     ·have:64*(i / 64)=i:=by omega
      rw[this,show 64*(i / 64+1) - i=64 by omega]
     ·rfl
    rw[e,hold,hbit,if_neg (by omega)]
    by_cases hb:i+1 < 64*(i / 64+1)
    ·rw[if_pos hb,show 64*(i / 64+1) - i=(64*(i / 64+1) - (i+1))+1 by omega,Nat.pow_succ (m:=64*(i / 64+1) - (i+1)),Nat.mul_comm (2 ^ (64*(i / 64+1) - (i+1))) 2,Nat.mod_mul,Nat.pow_succ,←Nat.div_div_eq_div_mul]
     omega
    ·rw[if_neg hb,show 64*(i / 64+1) - i=1 by omega]
     omega
   have hlt:2*gW a (i / 64)+(List.getD (Vector.toList l) i false).toNat < 18446744073709551616:=by
    rw[hnew]
    split
    ·exact Nat.mod_lt _ (by omega)
    ·refine Nat.lt_of_lt_of_le (Nat.mod_lt _ (Nat.two_pow_pos _)) ?_
     have:2 ^ (64*(i / 64+1) - i)≤2 ^ 64:=Nat.pow_le_pow_right (by decide) (by omega)
     exact this
   have fin:∀ x:UInt64,x.toNat=2*gW a (i / 64)+(List.getD (Vector.toList l) i false).toNat→Inv i (Vector.setIfInBounds a (i / 64) x):=by
    intro x hx q hq
    unfold gW
    rw[zax _ _ _ _ _ hq0]
    by_cases e:i / 64=q
    ·subst e
     rw[if_pos rfl,hx,hnew]
     split
     ·rfl
     ·rw[if_pos (by omega)]
    ·rw[if_neg e]
     have:=h q hq
     unfold gW at this
     rw[this]
     by_cases c1:i+1≤64*q
     ·rw[if_pos c1,if_pos (by omega)]
     ·rw[if_neg c1,if_neg (by omega),if_neg (by omega),if_neg (by omega)]
   have e1:((i+1:Nat):Int) - 1=(i:Int):=by omega
   have hg:gW a (i / 64)=(List.getD (Vector.toList a) (i / 64) 0).toNat:=rfl
   have e2:((2:UInt64)*List.getD (Vector.toList a) (i / 64) 0).toNat=2*gW a (i / 64):=by
    rw[UInt64.toNat_mul,←hg,show (2:UInt64).toNat=2 from rfl]
    omega
   cases hb:List.getD (Vector.toList l) i false with
   | true =>
    rw[hb]at fin hlt
    simp only[Bool.toNat_true]at fin hlt
    refine Ev.step (fun f=>?_) (ih (Vector.setIfInBounds a (i / 64) ((2:UInt64)*List.getD (Vector.toList a) (i / 64) 0+1)) (by omega) (fin _ (by rw[UInt64.toNat_add,e2,show (1:UInt64).toNat=1 from rfl]; omega)))
    rw[e1,ref03_Number_h0.eq_2,zan (by omega),ed,zaj (by omega) (by omega),if_pos (by omega),if_pos (by omega),Int.toNat_natCast,Int.toNat_natCast,hb,cond_true,zaj (by omega) (by omega)]
    rw[zax _ _ _ _ _ hq0,if_pos rfl]
    congr 1
    refine vext 0 fun j hj=>?_
    rw[zax _ _ _ _ _ hq0,zax _ _ _ _ _ hq0,zax _ _ _ _ _ hq0]
    split<;>rfl
   | false =>
    rw[hb]at fin
    simp only[Bool.toNat_false,Nat.add_zero]at fin
    refine Ev.step (fun f=>?_) (ih (Vector.setIfInBounds a (i / 64) ((2:UInt64)*List.getD (Vector.toList a) (i / 64) 0)) (by omega) (fin _ e2))
    rw[e1,ref03_Number_h0.eq_2,zan (by omega),ed,zaj (by omega) (by omega),if_pos (by omega),if_pos (by omega),Int.toNat_natCast,Int.toNat_natCast,hb,cond_false,zaj (by omega) (by omega)]
 refine gen 256 _ (Nat.le_refl _) fun q hq=>?_
 rw[if_neg (by omega),if_neg (by omega)]
 unfold gW
 rw[zjB]
 rfl
end
end Go.Proofs.YtnolgfdjcipmmaaDoor.M
namespace Go.Proofs.YtnolgfdjcipmmaaDoor.M
open Go
noncomputable section
def ref03_Add (a:Vector UInt64 4) (b:Vector UInt64 4):Vector UInt64 4 × Bool :=
 ((uW (bV (zbp (((bV (zbp (uV a)))+(bV (zbp (uV b))))+(Bool.toNat false))))),(decide ((115792089237316195423570985008687907853269984665640564039457584007913129639936:Nat)≤(((bV (zbp (uV a)))+(bV (zbp (uV b))))+(Bool.toNat false)))))
theorem zIi (a:Vector UInt64 4):bV (zbp (uV a))=uV a:=by
 rw[zjM,zdD,Nat.mod_eq_of_lt (zgl a)]
theorem zse (a b:Vector UInt64 4):ref03_Add a b=addS a b:=by
 rw[ref03_Add]
 simp only[zIi,Bool.toNat_false,Nat.add_zero]
 rw[zjM,zdD,zGZ]
 rfl
theorem zuJ (a b:Vector UInt64 4):ref03_Add a b=(addV a b,addB a b):=by
 rw[←zG2]
 exact zse a b
end
end Go.Proofs.YtnolgfdjcipmmaaDoor.M
namespace Go.Proofs.YtnolgfdjcipmmaaDoor.M
open Go
noncomputable section
def ref03_not_h0:Nat→Int→(Vector Bool 256)→(Vector Bool 256)→Option (Vector Bool 256)
 | 0,_,_,_=>none
 | k+1,i,x_,t2=>bif decide (i < (256:Int)) then(if((0:Int)≤i)∧(i < (256:Int)) then
    ref03_not_h0 k (w64 (i+(1:Int))) (Vector.setIfInBounds x_ (Int.toNat i) (!(List.getD (Vector.toList x_) (Int.toNat i) false))) t2
   else none)
   else(some x_)
def ref03_not (k:Nat) (x_0:Vector Bool 256):Option (Vector Bool 256) :=
 ref03_not_h0 k (0:Int) x_0 (Vector.replicate 256 false)
theorem zuO (x:Vector Bool 256):∃ k,ref03_not k x=some (bNot x):=by
 show Ev (fun k=>ref03_not k x) _
 refine Ev.same (fun k=>ref03_not.eq_1 k x) ?_
 refine Ev.upI (H:=fun k i y=>ref03_not_h0 k i y (Vector.replicate 256 false)) (lo:=0) (n:=256) (step:=fun i y=>Vector.setIfInBounds y i (!(List.getD (Vector.toList x) i false)))
  (fun i y=>∀ j,i≤j→j < 256→List.getD (Vector.toList y) j false=List.getD (Vector.toList x) j false) ?_ ?_ 256 0 x (Nat.le_refl 0) rfl (fun _ _ _=>rfl) ?_
 ·intro i y _ hi h j hj hj2
  rw[zax _ _ _ _ _ hi,if_neg (by omega)]
  exact h j (by omega) hj2
 ·intro i y _ hi h e
  refine Ev.step (fun f=>?_) e
  rw[ref03_not_h0.eq_2,zan (by omega),if_pos (by omega),Int.toNat_natCast,h i (Nat.le_refl i) hi,zaj (by omega) (by omega)]
 ·refine Ev.done fun f=>?_
  rw[ref03_not_h0.eq_2,zau (by omega),znz (fun i=>!(List.getD (Vector.toList x) i false))]
  rfl
end
end Go.Proofs.YtnolgfdjcipmmaaDoor.M
namespace Go.Proofs.YtnolgfdjcipmmaaDoor.M
open Go
noncomputable section
def ref03_Sub (a:Vector UInt64 4) (b:Vector UInt64 4):Vector UInt64 4 × Bool :=
 ((uW (bV (zbp (((bV (zbp (uV a)))+(bV (bNot (zbp (uV b)))))+(Bool.toNat true))))),(!(decide ((115792089237316195423570985008687907853269984665640564039457584007913129639936:Nat)≤(((bV (zbp (uV a)))+(bV (bNot (zbp (uV b)))))+(Bool.toNat true))))))
theorem zsQ (a b:Vector UInt64 4):ref03_Sub a b=subS a b:=by
 have h:=zIb (zbp (uV b))
 have hb:bV (zbp (uV b))=uV b:=by rw[zjM,zdD,Nat.mod_eq_of_lt (zgl b)]
 have ha:bV (zbp (uV a))=uV a:=by rw[zjM,zdD,Nat.mod_eq_of_lt (zgl a)]
 rw[hb]at h
 have hlt:=zgl b
 rw[ref03_Sub]
 unfold subS
 simp only[ha,Bool.toNat_true]
 rw[zjM,zdD,zGZ]
 have e:uV a+bV (bNot (zbp (uV b)))+1=uV a+115792089237316195423570985008687907853269984665640564039457584007913129639936 - uV b:=by omega
 rw[e]
 refine Prod.ext rfl ?_
 show (!decide _)=decide _
 rw[←decide_not,decide_eq_decide]
 omega
theorem ztW (a b:Vector UInt64 4):ref03_Sub a b=(subV a b,subB a b):=by
 rw[zB7,zgr]
 exact zsQ a b
end
end Go.Proofs.YtnolgfdjcipmmaaDoor.M
namespace Go.Proofs.YtnolgfdjcipmmaaDoor.M
open Go
noncomputable section
def ref03_Less_h0:Nat→Int→(Vector Bool 256)→(Vector Bool 256)→Option (Bool)
 | 0,_,_,_=>none
 | k+1,i,x_,y=>bif decide ((0:Int)≤i) then(if((0:Int)≤i)∧(i < (256:Int)) then
    bif !(decide ((List.getD (Vector.toList x_) (Int.toNat i) false)=(List.getD (Vector.toList y) (Int.toNat i) false))) then(some (List.getD (Vector.toList y) (Int.toNat i) false))
     else(ref03_Less_h0 k (w64 (i - (1:Int))) x_ y)
   else none)
   else(some false)
def ref03_Less (k:Nat) (a:Vector UInt64 4) (b:Vector UInt64 4):Option (Bool) :=
 ref03_Less_h0 k (255:Int) (zbp (uV a)) (zbp (uV b))
theorem zqV (a b:Vector UInt64 4):∃ k,ref03_Less k a b=some (decide (uV a < uV b)):=by
 show Ev (fun k=>ref03_Less k a b) _
 refine Ev.same (fun k=>ref03_Less.eq_1 k a b) ?_
 have gen:∀ i:Nat,i≤256→uV a / 2 ^ i=uV b / 2 ^ i→Ev (fun f=>ref03_Less_h0 f ((i:Int) - 1) (zbp (uV a)) (zbp (uV b))) (decide (uV a < uV b)):=by
  intro i
  induction i with
  | zero =>
   intro _ h
   rw[Nat.pow_zero,Nat.div_one,Nat.div_one]at h
   refine Ev.done fun f=>?_
   rw[ref03_Less_h0.eq_2,zau (by omega),decide_eq_false (by omega)]
  | succ i ih =>
   intro hi h
   have e1:((i+1:Nat):Int) - 1=(i:Int):=by omega
   have ha:=zsR (uV a) i
   have hb:=zsR (uV b) i
   have hp:0 < 2 ^ i:=Nat.two_pow_pos i
   have st:∀ f,ref03_Less_h0 (f+1) (((i+1:Nat):Int) - 1) (zbp (uV a)) (zbp (uV b))=bif !(decide ((uV a).testBit i=(uV b).testBit i))then some ((uV b).testBit i)else ref03_Less_h0 f ((i:Int) - 1) (zbp (uV a)) (zbp (uV b)):=by
    intro f
    rw[e1,ref03_Less_h0.eq_2,zan (by omega),if_pos (by omega),Int.toNat_natCast,zih _ _ (by omega),zih _ _ (by omega),zaj (by omega) (by omega)]
   have lt_of:∀ x y:Nat,x / 2 ^ i < y / 2 ^ i→x < y:=by
    intro x y hxy
    by_cases q:x < y
    ·exact q
    ·have:=Nat.div_le_div_right (c:=2 ^ i) (Nat.le_of_not_lt q)
     omega
   by_cases e:(uV a).testBit i=(uV b).testBit i
   ·refine Ev.step (fun f=>by rw[st f,decide_eq_true e]; rfl) (ih (by omega) ?_)
    rw[ha,hb,h,e]
   ·refine Ev.done fun f=>?_
    rw[st f,decide_eq_false e]
    show some _=some _
    congr 1
    cases h1:(uV a).testBit i<;>cases h2:(uV b).testBit i
    ·rw[h1,h2]at e; exact absurd rfl e
    ·rw[h1]at ha
     rw[h2]at hb
     have:=lt_of (uV a) (uV b) (by simp at ha hb; omega)
     rw[decide_eq_true this]
    ·rw[h1]at ha
     rw[h2]at hb
     have:=lt_of (uV b) (uV a) (by simp at ha hb; omega)
     rw[decide_eq_false (by omega)]
    ·rw[h1,h2]at e; exact absurd rfl e
 have ea:=Nat.div_eq_of_lt (show uV a < 2 ^ 256 from zgl a)
 have eb:=Nat.div_eq_of_lt (show uV b < 2 ^ 256 from zgl b)
 exact gen 256 (Nat.le_refl _) (by rw[ea,eb])
theorem zrZ (a b:Vector UInt64 4):∃ k,ref03_Less k a b=some (subB a b):=by
 rw[zgr]
 exact zqV a b
end
end Go.Proofs.YtnolgfdjcipmmaaDoor.M
namespace Go.Proofs.YtnolgfdjcipmmaaDoor.M
open Go
noncomputable section
mutual
def ref03_Over_h0:Nat→Int→(Vector UInt64 4)→(Vector UInt64 4)→(Vector UInt64 4)→(Vector Bool 256)→(Vector Bool 256)→(Vector Bool 256)→Option (Vector UInt64 4 × Vector UInt64 4 × Int)
 | 0,_,_,_,_,_,_,_=>none
 | k+1,i,b,t4,t5,x_,q,r_=>bif decide ((0:Int)≤i) then(ref03_Over_h2 k i (List.getD (Vector.toList r_) (255:Nat) false) (255:Int) b t4 t5 x_ q r_)
   else(some ((uW (bV q)),(uW (bV r_)),(0:Int)))
def ref03_Over_h2:Nat→Int→Bool→Int→(Vector UInt64 4)→(Vector UInt64 4)→(Vector UInt64 4)→(Vector Bool 256)→(Vector Bool 256)→(Vector Bool 256)→Option (Vector UInt64 4 × Vector UInt64 4 × Int)
 | 0,_,_,_,_,_,_,_,_,_=>none
 | k+1,i,top,k_,b,t4,t5,x_,q,r_=>bif decide ((0:Int) < k_) then(if((0:Int)≤(w64 (k_ - (1:Int))))∧((w64 (k_ - (1:Int))) < (256:Int)) then
    if((0:Int)≤k_)∧(k_ < (256:Int)) then
     ref03_Over_h2 k i top (w64 (k_ - (1:Int))) b t4 t5 x_ q (Vector.setIfInBounds r_ (Int.toNat k_) (List.getD (Vector.toList r_) (Int.toNat (w64 (k_ - (1:Int)))) false))
    else none
   else none)
   else(
      if((0:Int)≤i)∧(i < (256:Int)) then
    bif eqb top false then(bif bif false then true else(!(subB (uW (bV (Vector.setIfInBounds r_ (0:Nat) (List.getD (Vector.toList x_) (Int.toNat i) false)))) b)) then(ref03_Over_h0 k (w64 (i - (1:Int))) b t4 t5 x_ (Vector.setIfInBounds q (Int.toNat i) true) (zbp (uV (subV (uW (bV (Vector.setIfInBounds r_ (0:Nat) (List.getD (Vector.toList x_) (Int.toNat i) false)))) b))))
      else(ref03_Over_h0 k (w64 (i - (1:Int))) b t4 t5 x_ q (Vector.setIfInBounds r_ (0:Nat) (List.getD (Vector.toList x_) (Int.toNat i) false))))
     else(ref03_Over_h0 k (w64 (i - (1:Int))) b t4 t5 x_ (Vector.setIfInBounds q (Int.toNat i) true) (zbp (uV (subV (uW (bV (Vector.setIfInBounds r_ (0:Nat) (List.getD (Vector.toList x_) (Int.toNat i) false)))) b))))
   else none)
end
def ref03_Over (k:Nat) (a:Vector UInt64 4) (b:Vector UInt64 4):Option (Vector UInt64 4 × Vector UInt64 4 × Int) :=
 bif decide ((Vector.toList b)=(Vector.toList (Vector.replicate 4 (0:UInt64)))) then(some ((Vector.replicate 4 (0:UInt64)),(Vector.replicate 4 (0:UInt64)),(2:Int)))
  else(ref03_Over_h0 k (255:Int) b (Vector.replicate 4 (0:UInt64)) (Vector.replicate 4 (0:UInt64)) (zbp (uV a)) (Vector.replicate 256 false) (Vector.replicate 256 false))
theorem zq4 (I:Int) (top:Bool) (b:Vector UInt64 4) (x q r0:Vector Bool 256) (R:Vector UInt64 4 × Vector UInt64 4 × Int)
  (fin:∀ r:Vector Bool 256,(∀ j,j < 256→1≤j→List.getD (Vector.toList r) j false=List.getD (Vector.toList r0) (j - 1) false)→Ev (fun k=>ref03_Over_h2 k I top 0 b (Vector.replicate 4 0) (Vector.replicate 4 0) x q r) R) :
  Ev (fun k=>ref03_Over_h2 k I top 255 b (Vector.replicate 4 0) (Vector.replicate 4 0) x q r0) R:=by
 refine Ev.dwn (H:=fun k i r=>ref03_Over_h2 k I top (i+1) b (Vector.replicate 4 0) (Vector.replicate 4 0) x q r) (n:=255)
  (fun i r=>∀ j,j < 256→List.getD (Vector.toList r) j false=if i < j then List.getD (Vector.toList r0) (j - 1) false else List.getD (Vector.toList r0) j false) ?_ ?_ 255 r0 (Nat.le_refl _) ?_
 ·intro i r hi hv next
  refine Ev.step (fun k=>?_) (next (Vector.setIfInBounds r (i+1) (List.getD (Vector.toList r) i false)) ?_)
  ·show ref03_Over_h2 (k+1) I top ((i:Int)+1) b _ _ x q r=ref03_Over_h2 k I top ((i:Int) - 1+1) b _ _ x q _
   rw[ref03_Over_h2.eq_2,zan (by omega),zaj (by omega) (by omega),if_pos (by omega),if_pos (by omega),show (i:Int)+1 - 1=(i:Int) by omega,show (i:Int) - 1+1=(i:Int) by omega,Int.toNat_natCast,show Int.toNat ((i:Int)+1)=i+1 by omega]
  ·intro j hj
   rw[zax _ _ _ _ _ (by omega)]
   by_cases e:i+1=j
   ·subst e
    rw[if_pos rfl,if_pos (by omega),hv i (by omega),if_neg (by omega)]
    rfl
   ·rw[if_neg e,hv j hj]
    by_cases c:i+1 < j
    ·rw[if_pos c,if_pos (by omega)]
    ·rw[if_neg c,if_neg (by omega)]
 ·intro r hv
  refine fin r fun j hj h1=>?_
  rw[hv j hj,if_pos (by omega)]
 ·intro j hj
  rw[if_neg (by omega)]
theorem ztl (a b:Vector UInt64 4):∃ k,ref03_Over k a b=some (ovQ a b,ovR a b,ovE b):=by
 show Ev (fun k=>ref03_Over k a b) _
 refine Ev.same (fun k=>ref03_Over.eq_1 k a b) ?_
 by_cases c0:Vector.toList b=Vector.toList (Vector.replicate 4 0)
 ·refine Ev.done0 fun k=>?_
  rw[zan c0]
  rw[zmM]at c0
  rw[zvx,zAI,zDN]
  rw[c0,if_pos rfl,if_pos rfl,Nat.div_zero]
  rfl
 refine Ev.same (fun k=>zau c0) ?_
 rw[zmM]at c0
 have hB:0 < uV b:=by omega
 refine Ev.dwn (H:=fun k i (s:Vector Bool 256 × Vector Bool 256)=>ref03_Over_h0 k i b (Vector.replicate 4 0) (Vector.replicate 4 0) (zbp (uV a)) s.1 s.2) (n:=256)
  (fun i s=>(∀ j,j < 256→List.getD (Vector.toList s.1) j false=(decide (i≤j) && (uV a / uV b).testBit j))∧bV s.2=uV a / 2 ^ i % uV b) ?_ ?_ 256 (_,_) (Nat.le_refl _) ?_
 ·rintro i ⟨q,r⟩ hi ⟨hq,hr⟩ next
  simp only at hq hr next
  have hbv:=fun v:Vector Bool 256=>zIS v
  have eW:∀ v:Vector Bool 256,uV (uW (bV v))=bV v:=fun v=>by rw[zfy,Nat.mod_eq_of_lt (by rw[←zdD]; exact hbv v)]
  have hT:∀ (r':Vector UInt64 4),uV r'=uV a / 2 ^ i % uV b→(uV a / uV b).testBit i=true→Ev (fun k=>ref03_Over_h0 k ((i:Int) - 1) b (Vector.replicate 4 0) (Vector.replicate 4 0) (zbp (uV a)) (Vector.setIfInBounds q i true) (zbp (uV r'))) (ovQ a b,ovR a b,ovE b):=by
   intro r' h1 h2
   refine next (Vector.setIfInBounds q i true,zbp (uV r')) ⟨fun j hj=>?_,?_⟩
   ·show List.getD (Vector.toList (Vector.setIfInBounds q i true)) j false=_
    rw[zax _ _ _ _ _ hi]
    by_cases e:i=j
    ·subst e; rw[if_pos rfl,h2,decide_eq_true (Nat.le_refl _)]; rfl
    ·rw[if_neg e,hq j hj]
     congr 1
     rw[decide_eq_decide]; omega
   ·show bV (zbp (uV r'))=_
    rw[zjM,zdD,Nat.mod_eq_of_lt (zgl r'),h1]
  have hU:∀ (r':Vector UInt64 4),uV r'=uV a / 2 ^ i % uV b→(uV a / uV b).testBit i=false→Ev (fun k=>ref03_Over_h0 k ((i:Int) - 1) b (Vector.replicate 4 0) (Vector.replicate 4 0) (zbp (uV a)) q (zbp (uV r'))) (ovQ a b,ovR a b,ovE b):=by
   intro r' h1 h2
   refine next (q,zbp (uV r')) ⟨fun j hj=>?_,?_⟩
   ·show List.getD (Vector.toList q) j false=_
    rw[hq j hj]
    by_cases e:j=i
    ·subst e; rw[h2,Bool.and_false,Bool.and_false]
    ·congr 1
     rw[decide_eq_decide]; omega
   ·show bV (zbp (uV r'))=_
    rw[zjM,zdD,Nat.mod_eq_of_lt (zgl r'),h1]
  refine Ev.step (fun k=>?_) (zq4 (i:Int) (List.getD (Vector.toList r) 255 false) b (zbp (uV a)) q r _ fun r1 h1=>?_)
  ·show ref03_Over_h0 (k+1) _ b _ _ _ q r=_
   rw[ref03_Over_h0.eq_2,zan (by omega)]
  have e1:bV (Vector.setIfInBounds r1 0 ((uV a).testBit i))=(2*bV r+((uV a).testBit i).toNat) % 2 ^ 256:=by
   apply Nat.eq_of_testBit_eq
   intro j
   rw[zj5,Nat.testBit_mod_two_pow,zCn]
   by_cases hj:j < 256
   ·rw[decide_eq_true hj,Bool.true_and,zax _ _ _ _ _ (by omega)]
    by_cases e:0=j
    ·rw[if_pos e,if_pos e.symm]
    ·rw[if_neg e,if_neg (fun c=>e c.symm),h1 j hj (by omega),zj5]
   ·rw[decide_eq_false hj,Bool.false_and,←zj5]
    exact Nat.testBit_lt_two_pow (Nat.lt_of_lt_of_le (hbv _) (Nat.pow_le_pow_right (by decide) (by omega)))
  have hY:uW (bV (Vector.setIfInBounds r1 0 ((uV a).testBit i)))=uW (2*uV (uW (bV r))+((uV a).testBit i).toNat):=by
   rw[e1,zdD,zGZ,eW]
  obtain ⟨r',g1,g2⟩:=znN a b (uW (bV r)) i hB (by rw[eW,hr]) (fun v=>fun k=>ref03_Over_h0 k ((i:Int) - 1) b (Vector.replicate 4 0) (Vector.replicate 4 0) (zbp (uV a)) (Vector.setIfInBounds q i true) (zbp (uV v))) (fun v=>fun k=>ref03_Over_h0 k ((i:Int) - 1) b (Vector.replicate 4 0) (Vector.replicate 4 0) (zbp (uV a)) q (zbp (uV v))) ((uV a).testBit i) rfl (uW (bV (Vector.setIfInBounds r1 0 ((uV a).testBit i)))) hY
  have et:Nat.testBit (uV (uW (bV r))) 255=List.getD (Vector.toList r) 255 false:=by rw[eW,zj5]
  have F:∀ k,ref03_Over_h2 (k+1) (i:Int) (List.getD (Vector.toList r) 255 false) 0 b (Vector.replicate 4 0) (Vector.replicate 4 0) (zbp (uV a)) q r1=(if(uV a / uV b).testBit i then fun k=>ref03_Over_h0 k ((i:Int) - 1) b (Vector.replicate 4 0) (Vector.replicate 4 0) (zbp (uV a)) (Vector.setIfInBounds q i true) (zbp (uV r'))else fun k=>ref03_Over_h0 k ((i:Int) - 1) b (Vector.replicate 4 0) (Vector.replicate 4 0) (zbp (uV a)) q (zbp (uV r'))) k:=by
   intro k
   rw[ref03_Over_h2.eq_2,zau (by omega),if_pos (by omega),Int.toNat_natCast,zih _ _ hi,zaj (by omega) (by omega),←g2,et,eW,zHZ]
   rw[zgr,eW]
   cases eqb (List.getD (Vector.toList r) 255 false) false<;>cases decide (bV (Vector.setIfInBounds r1 0 ((uV a).testBit i)) < uV b)<;>rfl
  cases hb:(uV a / uV b).testBit i with
  | true =>
   refine Ev.step (fun k=>?_) (hT r' g1 hb)
   rw[F k,hb,if_pos rfl]
  | false =>
   refine Ev.step (fun k=>?_) (hU r' g1 hb)
   rw[F k,hb,if_neg (by decide)]
 ·rintro ⟨q,r⟩ ⟨hq,hr⟩
  refine Ev.done fun k=>?_
  simp only at hq hr
  show ref03_Over_h0 (k+1) _ b _ _ _ q r=_
  rw[ref03_Over_h0.eq_2,zau (by omega)]
  rw[zvx,zAI,zDN]
  refine congrArg some (Prod.ext ?_ (Prod.ext ?_ ?_))
  ·refine zim fun j hj=>?_
   show (uV (uW (bV q))).testBit j=(uV (uW _)).testBit j
   rw[zmh,zmh,zj5,hq j hj,decide_eq_true (Nat.zero_le _),Bool.true_and]
  ·show uW (bV r)=uW _
   rw[if_neg c0,hr,Nat.pow_zero,Nat.div_one]
  ·show (0:Int)=if uV b=0 then 2 else 0
   rw[if_neg c0]
 ·refine ⟨fun j hj=>?_,?_⟩
  ·show List.getD (Vector.toList (Vector.replicate 256 false)) j false=_
   rw[zjB,decide_eq_false (by omega),Bool.false_and]
  ·show bV (Vector.replicate 256 false)=_
   have e:bV (Vector.replicate 256 false)=0:=by
    apply Nat.eq_of_testBit_eq
    intro j
    rw[zj5,zjB,Nat.zero_testBit]
   rw[e,zdD,Nat.div_eq_of_lt (zgl a),Nat.zero_mod]
end
end Go.Proofs.YtnolgfdjcipmmaaDoor.M
namespace Go.Proofs.YtnolgfdjcipmmaaDoor.M
open Go
noncomputable section
set_option maxRecDepth 100000
set_option maxHeartbeats 0
noncomputable def zie:Tbl:=[]
noncomputable def zbx:CfgW:=mkC Tryd.prog theG zie 23 0 false
def zcu:Nat→List Nat:=fun i=>bif Nat.beq i 0 then [1,2,3,4]else []
noncomputable abbrev zcP:Code:=Tryd.f66.body.getD .skip
noncomputable abbrev zdw:List ResultVar:=Tryd.f66.results.toList
def zct:List Nat:=[]
def zdp (r:Vector UInt64 4):CallOut:=⟨.pv (.arr .u64 4 r),[],true,[]⟩
def zeP (i:Int) (h_:Vector UInt8 32) (t2:Vector UInt64 4) (a:Vector UInt64 4):St:=⟨[(1,.p 60000 []),(2,.p 60001 []),(3,.p 60002 []),(4,.pv (.sc .i i))],[(60000,.box (.pv (.arr .u8 32 h_))),(60001,.box (.pv (.arr .u64 4 t2))),(60002,.box (.pv (.arr .u64 4 a)))]⟩
theorem zrC (i:Int) (h_:Vector UInt8 32) (t2:Vector UInt64 4) (a:Vector UInt64 4) (Q:CallOut→Prop):zas zbx zcu [true,true,false,true,false] zcP (zeP i h_ t2 a) (fnK zbx zdw zct Q) =
  (zaf (decide ((0:Int)≤i)) (((8:Int)≠(0:Int))∧(((8:Int)≠(0:Int))∧((((0:Int)≤(w64 (Int.tdiv i (8:Int))))∧((w64 (Int.tdiv i (8:Int))) < (4:Int)))∧((((0:Int)≤i)∧(i < (32:Int)))∧((((0:Int)≤(w64 (Int.tdiv i (8:Int))))∧((w64 (Int.tdiv i (8:Int))) < (4:Int)))∧(zah zbx zcu [true,true,false,true,false] zcP (zeP (w64 (i - (1:Int))) h_ t2 (Vector.setIfInBounds a (Int.toNat (w64 (Int.tdiv i (8:Int)))) (((256:UInt64)*(List.getD (Vector.toList a) (Int.toNat (w64 (Int.tdiv i (8:Int)))) (0:UInt64)))+(UInt8.toUInt64 (List.getD (Vector.toList h_) (Int.toNat i) (0:UInt8)))))) (fnK zbx zdw zct Q))))))) (Q (zdp a))):=by kernel_rfl
theorem zj8 {r:Vector UInt64 4} {Q:CallOut→Prop} (hQ:Q (zdp r)):∀ k:Nat,(∀ (i:Int) (h_:Vector UInt8 32) (t2:Vector UInt64 4) (a:Vector UInt64 4),ref03_OfHash_h0 k i h_ t2 a=some r→zah zbx zcu [true,true,false,true,false] zcP (zeP i h_ t2 a) (fnK zbx zdw zct Q))
 | 0=>fun _ _ _ _ h=>zb9 h
 | k+1=>fun i h_ t2 a h=>zal (Eq.mpr (zrC i h_ t2 a Q) (have h:=(ref03_OfHash_h0.eq_2 i h_ t2 a k).symm.trans h; zab h (fun h=>⟨by decide +kernel,⟨by decide +kernel,zad h fun hc0 h=>zad h fun hc1 h=>⟨hc0,(zj8 hQ k) _ _ _ _ h⟩⟩⟩) (fun h=>zag (Q:=Q) (e:=zdp) h hQ)))
theorem zum (h_0:Vector UInt8 32) (Q:CallOut→Prop):zac zbx zcu zdw zct zcP [.pv (.arr .u8 32 h_0)] [] Q =
  (zah zbx zcu [true,true,false,true,false] zcP (zeP (31:Int) h_0 (Vector.replicate 4 (0:UInt64)) (Vector.replicate 4 (0:UInt64))) (fnK zbx zdw zct Q)):=by kernel_rfl
theorem zt7 {k:Nat} (h_0:Vector UInt8 32) {r} {Q:CallOut→Prop} (h:ref03_OfHash k h_0=some r) (hQ:Q (zdp r)):zac zbx zcu zdw zct zcP [.pv (.arr .u8 32 h_0)] [] Q :=
 Eq.mpr (zum h_0 Q) (have h:=(ref03_OfHash.eq_1 k h_0).symm.trans h; (zj8 hQ _) _ _ _ _ h)
def zfP:Ans
 | [.pv (.arr .u8 32 h_0)],[]=>some (none,zdp (zjY h_0))
 | _,_=>none
theorem zqJ:TblOK Tryd.prog theG zie:=.nil
theorem zr8:FnOK Tryd.prog theG 66 (unW zfP):=by
 refine FnOK.ofC (T:=zie) (nt:=23) (np:=0) (mv:=[]) (nf:=false) (hs:=zct) (fn:=Tryd.f66) (body:=zcP) zqJ (by kernel_rfl) (by kernel_rfl) (by kernel_rfl) (by kernel_rfl) (c:=zfP) (lv:=zcu) ?_
 intro xs mem p out h hp
 unfold zfP at h
 split at h
 ·cases h
  obtain ⟨k,hk⟩:=zoY _
  exact zt7 _ hk rfl
 ·cases h
end
end Go.Proofs.YtnolgfdjcipmmaaDoor.M
namespace Go.Proofs.YtnolgfdjcipmmaaDoor.M
open Go
noncomputable section
set_option maxRecDepth 100000
set_option maxHeartbeats 0
noncomputable def zpl:Tbl:=[]
noncomputable def zvH:CfgW:=mkC Tryd.prog theG zpl 7 0 false
def znh:Nat→List Nat:=fun i=>[]
noncomputable abbrev zpq:Code:=Tryd.f33.body.getD .skip
noncomputable abbrev zwa:List ResultVar:=Tryd.f33.results.toList
def zms:List Nat:=[]
def zf4 (r:Vector UInt64 4):CallOut:=⟨.pv (.arr .u64 4 r),[],true,[]⟩
theorem zEJ (n:UInt64) (Q:CallOut→Prop):zac zvH znh zwa zms zpq [.pv (.sc .u64 n)] [] Q =
  ((((0:Int)≤(0:Int))∧((0:Int) < (4:Int)))∧(Q (zf4 (Vector.setIfInBounds (Vector.replicate 4 (0:UInt64)) (0:Nat) n)))):=by kernel_rfl
theorem zD8 (n:UInt64) {Q:CallOut→Prop} (h:Q (zf4 (ref03_Of n))):zac zvH znh zwa zms zpq [.pv (.sc .u64 n)] [] Q :=
 Eq.mpr (zEJ n Q) (have h:=Eq.mp (congrArg (fun r=>Q (zf4 r)) (ref03_Of.eq_1 n)) h; ⟨by decide +kernel,h⟩)
def zgS:Ans
 | [.pv (.sc .u64 n)],[]=>some (none,zf4 (uW n.toNat))
 | _,_=>none
theorem zy2:TblOK Tryd.prog theG zpl:=.nil
theorem zmt:FnOK Tryd.prog theG 33 (unW zgS):=by
 refine FnOK.ofC (T:=zpl) (nt:=7) (np:=0) (mv:=[]) (nf:=false) (hs:=zms) (fn:=Tryd.f33) (body:=zpq) zy2 (by kernel_rfl) (by kernel_rfl) (by kernel_rfl) (by kernel_rfl) (c:=zgS) (lv:=znh) ?_
 intro xs mem p out h hp
 unfold zgS at h
 split at h
 ·cases h
  exact zD8 _ (congrArg zf4 (zxV _))
 ·cases h
end
end Go.Proofs.YtnolgfdjcipmmaaDoor.M
namespace Go.Proofs.YtnolgfdjcipmmaaDoor.M
open Go
noncomputable section
set_option maxRecDepth 100000
set_option maxHeartbeats 0
noncomputable def zhU:Tbl:=[]
noncomputable def zby:CfgW:=mkC Tryd.prog theG zhU 26 0 false
def zco:Nat→List Nat:=fun i=>bif Nat.beq i 0 then [1,2,3,4]else []
noncomputable abbrev zcJ:Code:=Tryd.f80.body.getD .skip
noncomputable abbrev zdv:List ResultVar:=Tryd.f80.results.toList
def zcq:List Nat:=[]
def zdq (r:Vector UInt8 32):CallOut:=⟨.pv (.arr .u8 32 r),[],true,[]⟩
def zeT (i:Int) (a:Vector UInt64 4) (t2:Vector UInt8 32) (h_:Vector UInt8 32):St:=⟨[(1,.p 60000 []),(2,.p 60001 []),(3,.p 60002 []),(4,.pv (.sc .i i))],[(60000,.box (.pv (.arr .u64 4 a))),(60001,.box (.pv (.arr .u8 32 t2))),(60002,.box (.pv (.arr .u8 32 h_)))]⟩
theorem zsg (i:Int) (a:Vector UInt64 4) (t2:Vector UInt8 32) (h_:Vector UInt8 32) (Q:CallOut→Prop):zas zby zco [true,true,false,true,false] zcJ (zeT i a t2 h_) (fnK zby zdv zcq Q) =
 (let s0:=(((0:Int)≤(w64 (Int.tdiv i (8:Int))))∧((w64 (Int.tdiv i (8:Int))) < (4:Int)));(zaf (decide (i < (32:Int))) (((8:Int)≠(0:Int))∧( s0 ∧(((256:UInt64)≠(0:UInt64))∧((((0:Int)≤i)∧(i < (32:Int)))∧(((8:Int)≠(0:Int))∧(((8:Int)≠(0:Int))∧( s0 ∧(((256:UInt64)≠(0:UInt64))∧( s0 ∧(zah zby zco [true,true,false,true,false] zcJ (zeT (w64 (i+(1:Int))) (Vector.setIfInBounds a (Int.toNat (w64 (Int.tdiv i (8:Int)))) ((List.getD (Vector.toList a) (Int.toNat (w64 (Int.tdiv i (8:Int)))) (0:UInt64)) / (256:UInt64))) t2 (Vector.setIfInBounds h_ (Int.toNat i) (UInt64.toUInt8 ((List.getD (Vector.toList a) (Int.toNat (w64 (Int.tdiv i (8:Int)))) (0:UInt64)) % (256:UInt64))))) (fnK zby zdv zcq Q))))))))))) (Q (zdq h_)))):=by kernel_rfl
theorem zla {r:Vector UInt8 32} {Q:CallOut→Prop} (hQ:Q (zdq r)):∀ k:Nat,(∀ (i:Int) (a:Vector UInt64 4) (t2:Vector UInt8 32) (h_:Vector UInt8 32),ref03_ToHash_h0 k i a t2 h_=some r→zah zby zco [true,true,false,true,false] zcJ (zeT i a t2 h_) (fnK zby zdv zcq Q))
 | 0=>fun _ _ _ _ h=>zb9 h
 | k+1=>fun i a t2 h_ h=>zal (Eq.mpr (zsg i a t2 h_ Q) (have h:=(ref03_ToHash_h0.eq_2 i a t2 h_ k).symm.trans h; zab h (fun h=>⟨by decide +kernel,zad h fun hc0 h=>⟨by decide +kernel,zad h fun hc1 h=>⟨by decide +kernel,⟨by decide +kernel,⟨hc0,⟨by decide +kernel,⟨hc0,(zla hQ k) _ _ _ _ h⟩⟩⟩⟩⟩⟩⟩) (fun h=>zag (Q:=Q) (e:=zdq) h hQ)))
theorem zuE (a:Vector UInt64 4) (Q:CallOut→Prop):zac zby zco zdv zcq zcJ [.pv (.arr .u64 4 a)] [] Q =
  (zah zby zco [true,true,false,true,false] zcJ (zeT (0:Int) a (Vector.replicate 32 (0:UInt8)) (Vector.replicate 32 (0:UInt8))) (fnK zby zdv zcq Q)):=by kernel_rfl
theorem ztV {k:Nat} (a:Vector UInt64 4) {r} {Q:CallOut→Prop} (h:ref03_ToHash k a=some r) (hQ:Q (zdq r)):zac zby zco zdv zcq zcJ [.pv (.arr .u64 4 a)] [] Q :=
 Eq.mpr (zuE a Q) (have h:=(ref03_ToHash.eq_1 k a).symm.trans h; (zla hQ _) _ _ _ _ h)
def zfQ:Ans
 | [.pv (.arr .u64 4 a)],[]=>some (none,zdq (zlX (uV a)))
 | _,_=>none
theorem zq2:TblOK Tryd.prog theG zhU:=.nil
theorem zs5:FnOK Tryd.prog theG 80 (unW zfQ):=by
 refine FnOK.ofC (T:=zhU) (nt:=26) (np:=0) (mv:=[]) (nf:=false) (hs:=zcq) (fn:=Tryd.f80) (body:=zcJ) zq2 (by kernel_rfl) (by kernel_rfl) (by kernel_rfl) (by kernel_rfl) (c:=zfQ) (lv:=zco) ?_
 intro xs mem p out h hp
 unfold zfQ at h
 split at h
 ·cases h
  obtain ⟨k,hk⟩:=zo7 _
  exact ztV _ hk rfl
 ·cases h
end
end Go.Proofs.YtnolgfdjcipmmaaDoor.M
namespace Go.Proofs.YtnolgfdjcipmmaaDoor.M
open Go
noncomputable section
set_option maxRecDepth 100000
set_option maxHeartbeats 0
noncomputable def zli:Tbl:=[]
noncomputable def zaW:CfgW:=mkC Tryd.prog theG zli 29 0 false
def zbK:Nat→List Nat:=fun i=>bif Nat.beq i 2 then [1,2,3,4,5,6]else bif Nat.beq i 0 then [1,2,3,4]else []
noncomputable abbrev zb0:Code:=Tryd.f35.body.getD .skip
noncomputable abbrev zcl:List ResultVar:=Tryd.f35.results.toList
def zbI:List Nat:=[]
def zee (r:Vector Bool 256):CallOut:=⟨.pv (.arr .b 256 r),[],true,[]⟩
def zgE (i:Int) (a:Vector UInt64 4) (t2:Vector Bool 256) (l:Vector Bool 256):St:=⟨[(1,.p 60000 []),(2,.p 60001 []),(3,.p 60002 []),(4,.pv (.sc .i i))],[(60000,.box (.pv (.arr .u64 4 a))),(60001,.box (.pv (.arr .b 256 t2))),(60002,.box (.pv (.arr .b 256 l)))]⟩
def zgy (i:Int) (n:UInt64) (k_:Int) (a:Vector UInt64 4) (t2:Vector Bool 256) (l:Vector Bool 256):St:=⟨[(1,.p 60000 []),(2,.p 60001 []),(3,.p 60002 []),(4,.pv (.sc .i i)),(5,.pv (.sc .u64 n)),(6,.pv (.sc .i k_))],[(60000,.box (.pv (.arr .u64 4 a))),(60001,.box (.pv (.arr .b 256 t2))),(60002,.box (.pv (.arr .b 256 l)))]⟩
theorem zxG (i:Int) (a:Vector UInt64 4) (t2:Vector Bool 256) (l:Vector Bool 256) (Q:CallOut→Prop):zas zaW zbK [true,true,false,true,false] zb0 (zgE i a t2 l) (fnK zaW zcl zbI Q) =
  (zaf (decide (i < (256:Int))) (((64:Int)≠(0:Int))∧((((0:Int)≤(w64 (Int.tdiv i (64:Int))))∧((w64 (Int.tdiv i (64:Int))) < (4:Int)))∧(zah zaW zbK [true,true,false,true,false,false,true,false,false,true,false,true,false] zb0 (zgy i (List.getD (Vector.toList a) (Int.toNat (w64 (Int.tdiv i (64:Int)))) (0:UInt64)) (0:Int) a t2 l) (fnK zaW zcl zbI Q)))) (Q (zee l))):=by kernel_rfl
theorem zxw (i:Int) (n:UInt64) (k_:Int) (a:Vector UInt64 4) (t2:Vector Bool 256) (l:Vector Bool 256) (Q:CallOut→Prop):zas zaW zbK [true,true,false,true,false,false,true,false,false,true,false,true,false] zb0 (zgy i n k_ a t2 l) (fnK zaW zcl zbI Q) =
  (((64:Int)≠(0:Int))∧(zaf (decide (k_ < (Int.tmod i (64:Int)))) (((2:UInt64)≠(0:UInt64))∧(zah zaW zbK [true,true,false,true,false,false,true,false,false,true,false,true,false] zb0 (zgy i (n / (2:UInt64)) (w64 (k_+(1:Int))) a t2 l) (fnK zaW zcl zbI Q))) (((2:UInt64)≠(0:UInt64))∧((((0:Int)≤i)∧(i < (256:Int)))∧(zah zaW zbK [true,true,false,true,false] zb0 (zgE (w64 (i+(1:Int))) a t2 (Vector.setIfInBounds l (Int.toNat i) (decide ((n % (2:UInt64))=(1:UInt64))))) (fnK zaW zcl zbI Q)))))):=by kernel_rfl
theorem zgv {r:Vector Bool 256} {Q:CallOut→Prop} (hQ:Q (zee r)):∀ k:Nat,(∀ (i:Int) (a:Vector UInt64 4) (t2:Vector Bool 256) (l:Vector Bool 256),ref03_Bits_h0 k i a t2 l=some r→zah zaW zbK [true,true,false,true,false] zb0 (zgE i a t2 l) (fnK zaW zcl zbI Q))∧(∀ (i:Int) (n:UInt64) (k_:Int) (a:Vector UInt64 4) (t2:Vector Bool 256) (l:Vector Bool 256),ref03_Bits_h2 k i n k_ a t2 l=some r→zah zaW zbK [true,true,false,true,false,false,true,false,false,true,false,true,false] zb0 (zgy i n k_ a t2 l) (fnK zaW zcl zbI Q))
 | 0=>⟨fun _ _ _ _ h=>zb9 h,fun _ _ _ _ _ _ h=>zb9 h⟩
 | k+1=>⟨fun i a t2 l h=>zal (Eq.mpr (zxG i a t2 l Q) (have h:=(ref03_Bits_h0.eq_2 i a t2 l k).symm.trans h; zab h (fun h=>⟨by decide +kernel,zad h fun hc0 h=>(zgv hQ k).2 _ _ _ _ _ _ h⟩) (fun h=>zag (Q:=Q) (e:=zee) h hQ))),
  fun i n k_ a t2 l h=>zal (Eq.mpr (zxw i n k_ a t2 l Q) (have h:=(ref03_Bits_h2.eq_2 i n k_ a t2 l k).symm.trans h; ⟨by decide +kernel,zab h (fun h=>⟨by decide +kernel,(zgv hQ k).2 _ _ _ _ _ _ h⟩) (fun h=>⟨by decide +kernel,zad h fun hc0 h=>(zgv hQ k).1 _ _ _ _ h⟩)⟩))⟩
theorem zAp (a:Vector UInt64 4) (Q:CallOut→Prop):zac zaW zbK zcl zbI zb0 [.pv (.arr .u64 4 a)] [] Q =
  (zah zaW zbK [true,true,false,true,false] zb0 (zgE (0:Int) a (Vector.replicate 256 false) (Vector.replicate 256 false)) (fnK zaW zcl zbI Q)):=by kernel_rfl
theorem zAG {k:Nat} (a:Vector UInt64 4) {r} {Q:CallOut→Prop} (h:ref03_Bits k a=some r) (hQ:Q (zee r)):zac zaW zbK zcl zbI zb0 [.pv (.arr .u64 4 a)] [] Q :=
 Eq.mpr (zAp a Q) (have h:=(ref03_Bits.eq_1 k a).symm.trans h; (zgv hQ _).1 _ _ _ _ h)
def zdL:Ans
 | [.pv (.arr .u64 4 a)],[]=>some (none,zee (zbp (uV a)))
 | _,_=>none
theorem zus:TblOK Tryd.prog theG zli:=.nil
theorem zgM:FnOK Tryd.prog theG 35 (unW zdL):=by
 refine FnOK.ofC (T:=zli) (nt:=29) (np:=0) (mv:=[]) (nf:=false) (hs:=zbI) (fn:=Tryd.f35) (body:=zb0) zus (by kernel_rfl) (by kernel_rfl) (by kernel_rfl) (by kernel_rfl) (c:=zdL) (lv:=zbK) ?_
 intro xs mem p out h hp
 unfold zdL at h
 split at h
 ·cases h
  obtain ⟨k,hk⟩:=zsH _
  exact zAG _ hk rfl
 ·cases h
end
end Go.Proofs.YtnolgfdjcipmmaaDoor.M
namespace Go.Proofs.YtnolgfdjcipmmaaDoor.M
open Go
noncomputable section
set_option maxRecDepth 100000
set_option maxHeartbeats 0
noncomputable def zmw:Tbl:=[]
noncomputable def zaN:CfgW:=mkC Tryd.prog theG zmw 37 0 false
def zbo:Nat→List Nat:=fun i=>bif Nat.beq i 0 then [2,3,4,6,8,9]else []
noncomputable abbrev zbE:Code:=Tryd.f52.body.getD .skip
noncomputable abbrev zbR:List ResultVar:=Tryd.f52.results.toList
def zbm:List Nat:=[]
def ze1 (r:Vector Bool 256 × Bool):CallOut:=⟨.tup [.pv (.arr .b 256 r.1),.pv (.sc .b r.2)],[],true,[]⟩
def zbX (carry:Bool) (i:Int) (x_:Vector Bool 256) (y:Vector Bool 256) (t6:Vector Bool 256) (out:Vector Bool 256):St:=⟨[(2,.pv (.sc .b carry)),(3,.p 60000 []),(4,.p 60001 []),(6,.p 60002 []),(8,.p 60003 []),(9,.pv (.sc .i i))],[(60000,.box (.pv (.arr .b 256 x_))),(60001,.box (.pv (.arr .b 256 y))),(60002,.box (.pv (.arr .b 256 t6))),(60003,.box (.pv (.arr .b 256 out)))]⟩
theorem zA6 (carry:Bool) (i:Int) (x_:Vector Bool 256) (y:Vector Bool 256) (t6:Vector Bool 256) (out:Vector Bool 256) (Q:CallOut→Prop):zas zaN zbo [true,true,false,true,false] zbE (zbX carry i x_ y t6 out) (fnK zaN zbR zbm Q) =
 (let s0:=(zaf carry (((2:Int)≠(0:Int))∧((((0:Int)≤i)∧(i < (256:Int)))∧(zah zaN zbo [true,true,false,true,false] zbE (zbX (decide ((2:Int)≤(2:Int))) (w64 (i+(1:Int))) x_ y t6 (Vector.setIfInBounds out (Int.toNat i) (decide ((0:Int)=(1:Int))))) (fnK zaN zbR zbm Q)))) (((2:Int)≠(0:Int))∧((((0:Int)≤i)∧(i < (256:Int)))∧(zah zaN zbo [true,true,false,true,false] zbE (zbX (decide ((2:Int)≤(1:Int))) (w64 (i+(1:Int))) x_ y t6 (Vector.setIfInBounds out (Int.toNat i) (decide ((1:Int)=(1:Int))))) (fnK zaN zbR zbm Q)))));(zaf (decide (i < (256:Int))) ((((0:Int)≤i)∧(i < (256:Int)))∧(zaf (List.getD (Vector.toList x_) (Int.toNat i) false) ((((0:Int)≤i)∧(i < (256:Int)))∧(zaf (List.getD (Vector.toList y) (Int.toNat i) false) (zaf carry (((2:Int)≠(0:Int))∧((((0:Int)≤i)∧(i < (256:Int)))∧(zah zaN zbo [true,true,false,true,false] zbE (zbX (decide ((2:Int)≤(3:Int))) (w64 (i+(1:Int))) x_ y t6 (Vector.setIfInBounds out (Int.toNat i) (decide ((1:Int)=(1:Int))))) (fnK zaN zbR zbm Q)))) (((2:Int)≠(0:Int))∧((((0:Int)≤i)∧(i < (256:Int)))∧(zah zaN zbo [true,true,false,true,false] zbE (zbX (decide ((2:Int)≤(2:Int))) (w64 (i+(1:Int))) x_ y t6 (Vector.setIfInBounds out (Int.toNat i) (decide ((0:Int)=(1:Int))))) (fnK zaN zbR zbm Q)))))  s0 )) ((((0:Int)≤i)∧(i < (256:Int)))∧(zaf (List.getD (Vector.toList y) (Int.toNat i) false)  s0  (zaf carry (((2:Int)≠(0:Int))∧((((0:Int)≤i)∧(i < (256:Int)))∧(zah zaN zbo [true,true,false,true,false] zbE (zbX (decide ((2:Int)≤(1:Int))) (w64 (i+(1:Int))) x_ y t6 (Vector.setIfInBounds out (Int.toNat i) (decide ((1:Int)=(1:Int))))) (fnK zaN zbR zbm Q)))) (((2:Int)≠(0:Int))∧((((0:Int)≤i)∧(i < (256:Int)))∧(zah zaN zbo [true,true,false,true,false] zbE (zbX (decide ((2:Int)≤(0:Int))) (w64 (i+(1:Int))) x_ y t6 (Vector.setIfInBounds out (Int.toNat i) (decide ((0:Int)=(1:Int))))) (fnK zaN zbR zbm Q))))))))) (Q (ze1 (out,carry))))):=by kernel_rfl
theorem zcG {r:Vector Bool 256 × Bool} {Q:CallOut→Prop} (hQ:Q (ze1 r)):∀ k:Nat,(∀ (carry:Bool) (i:Int) (x_:Vector Bool 256) (y:Vector Bool 256) (t6:Vector Bool 256) (out:Vector Bool 256),ref03_sum_h0 k carry i x_ y t6 out=some r→zah zaN zbo [true,true,false,true,false] zbE (zbX carry i x_ y t6 out) (fnK zaN zbR zbm Q))
 | 0=>fun _ _ _ _ _ _ h=>zb9 h
 | k+1=>fun carry i x_ y t6 out h=>zal (Eq.mpr (zA6 carry i x_ y t6 out Q) (have h:=(ref03_sum_h0.eq_2 carry i x_ y t6 out k).symm.trans h; zab h (fun h=>zad h fun hc0 h=>zab h (fun h=>⟨hc0,zab h (fun h=>zab h (fun h=>⟨by decide +kernel,⟨hc0,(zcG hQ k) _ _ _ _ _ _ h⟩⟩) (fun h=>⟨by decide +kernel,⟨hc0,(zcG hQ k) _ _ _ _ _ _ h⟩⟩)) (fun h=>zab h (fun h=>⟨by decide +kernel,⟨hc0,(zcG hQ k) _ _ _ _ _ _ h⟩⟩) (fun h=>⟨by decide +kernel,⟨hc0,(zcG hQ k) _ _ _ _ _ _ h⟩⟩))⟩) (fun h=>⟨hc0,zab h (fun h=>zab h (fun h=>⟨by decide +kernel,⟨hc0,(zcG hQ k) _ _ _ _ _ _ h⟩⟩) (fun h=>⟨by decide +kernel,⟨hc0,(zcG hQ k) _ _ _ _ _ _ h⟩⟩)) (fun h=>zab h (fun h=>⟨by decide +kernel,⟨hc0,(zcG hQ k) _ _ _ _ _ _ h⟩⟩) (fun h=>⟨by decide +kernel,⟨hc0,(zcG hQ k) _ _ _ _ _ _ h⟩⟩))⟩)) (fun h=>zag (Q:=Q) (e:=ze1) h hQ)))
theorem zCB (x_0:Vector Bool 256) (y:Vector Bool 256) (carry:Bool) (Q:CallOut→Prop):zac zaN zbo zbR zbm zbE [.pv (.arr .b 256 x_0),.pv (.arr .b 256 y),.pv (.sc .b carry)] [] Q =
  (zah zaN zbo [true,true,false,true,false] zbE (zbX carry (0:Int) x_0 y (Vector.replicate 256 false) (Vector.replicate 256 false)) (fnK zaN zbR zbm Q)):=by kernel_rfl
theorem zBu {k:Nat} (x_0:Vector Bool 256) (y:Vector Bool 256) (carry:Bool) {r} {Q:CallOut→Prop} (h:ref03_sum k x_0 y carry=some r) (hQ:Q (ze1 r)):zac zaN zbo zbR zbm zbE [.pv (.arr .b 256 x_0),.pv (.arr .b 256 y),.pv (.sc .b carry)] [] Q :=
 Eq.mpr (zCB x_0 y carry Q) (have h:=(ref03_sum.eq_1 k x_0 y carry).symm.trans h; (zcG hQ _) _ _ _ _ _ _ h)
def zgZ:Ans
 | [.pv (.arr .b 256 x_0),.pv (.arr .b 256 y),.pv (.sc .b carry)],[]=>some (none,ze1 (sumS x_0 y carry))
 | _,_=>none
theorem zxr:TblOK Tryd.prog theG zmw:=.nil
theorem zqh:FnOK Tryd.prog theG 52 (unW zgZ):=by
 refine FnOK.ofC (T:=zmw) (nt:=37) (np:=0) (mv:=[]) (nf:=false) (hs:=zbm) (fn:=Tryd.f52) (body:=zbE) zxr (by kernel_rfl) (by kernel_rfl) (by kernel_rfl) (by kernel_rfl) (c:=zgZ) (lv:=zbo) ?_
 intro xs mem p out h hp
 unfold zgZ at h
 split at h
 ·cases h
  obtain ⟨k,hk⟩:=ztU _ _ _
  exact zBu _ _ _ hk rfl
 ·cases h
end
end Go.Proofs.YtnolgfdjcipmmaaDoor.M
namespace Go.Proofs.YtnolgfdjcipmmaaDoor.M
open Go
noncomputable section
set_option maxRecDepth 100000
set_option maxHeartbeats 0
noncomputable def zh6:Tbl:=[]
noncomputable def zbg:CfgW:=mkC Tryd.prog theG zh6 29 0 false
def zbY:Nat→List Nat:=fun i=>bif Nat.beq i 0 then [1,2,3,4]else []
noncomputable abbrev zcf:Code:=Tryd.f53.body.getD .skip
noncomputable abbrev zcI:List ResultVar:=Tryd.f53.results.toList
def zbW:List Nat:=[]
def zdo (r:Vector UInt64 4):CallOut:=⟨.pv (.arr .u64 4 r),[],true,[]⟩
def zdW (i:Int) (l:Vector Bool 256) (t2:Vector UInt64 4) (a:Vector UInt64 4):St:=⟨[(1,.p 60000 []),(2,.p 60001 []),(3,.p 60002 []),(4,.pv (.sc .i i))],[(60000,.box (.pv (.arr .b 256 l))),(60001,.box (.pv (.arr .u64 4 t2))),(60002,.box (.pv (.arr .u64 4 a)))]⟩
theorem ztH (i:Int) (l:Vector Bool 256) (t2:Vector UInt64 4) (a:Vector UInt64 4) (Q:CallOut→Prop):zas zbg zbY [true,true,false,true,false] zcf (zdW i l t2 a) (fnK zbg zcI zbW Q) =
 (let s0:=(Vector.setIfInBounds a (Int.toNat (w64 (Int.tdiv i (64:Int)))) ((2:UInt64)*(List.getD (Vector.toList a) (Int.toNat (w64 (Int.tdiv i (64:Int)))) (0:UInt64))));let s1:=(((0:Int)≤(w64 (Int.tdiv i (64:Int))))∧((w64 (Int.tdiv i (64:Int))) < (4:Int)));(zaf (decide ((0:Int)≤i)) (((64:Int)≠(0:Int))∧(((64:Int)≠(0:Int))∧( s1 ∧( s1 ∧((((0:Int)≤i)∧(i < (256:Int)))∧(zaf (List.getD (Vector.toList l) (Int.toNat i) false) (((64:Int)≠(0:Int))∧(((64:Int)≠(0:Int))∧( s1 ∧( s1 ∧(zah zbg zbY [true,true,false,true,false] zcf (zdW (w64 (i - (1:Int))) l t2 (Vector.setIfInBounds  s0  (Int.toNat (w64 (Int.tdiv i (64:Int)))) ((List.getD (Vector.toList  s0 ) (Int.toNat (w64 (Int.tdiv i (64:Int)))) (0:UInt64))+(1:UInt64)))) (fnK zbg zcI zbW Q)))))) (zah zbg zbY [true,true,false,true,false] zcf (zdW (w64 (i - (1:Int))) l t2  s0 ) (fnK zbg zcI zbW Q)))))))) (Q (zdo a)))):=by kernel_rfl
theorem zhf {r:Vector UInt64 4} {Q:CallOut→Prop} (hQ:Q (zdo r)):∀ k:Nat,(∀ (i:Int) (l:Vector Bool 256) (t2:Vector UInt64 4) (a:Vector UInt64 4),ref03_Number_h0 k i l t2 a=some r→zah zbg zbY [true,true,false,true,false] zcf (zdW i l t2 a) (fnK zbg zcI zbW Q))
 | 0=>fun _ _ _ _ h=>zb9 h
 | k+1=>fun i l t2 a h=>zal (Eq.mpr (ztH i l t2 a Q) (have h:=(ref03_Number_h0.eq_2 i l t2 a k).symm.trans h; zab h (fun h=>⟨by decide +kernel,⟨by decide +kernel,zad h fun hc0 h=>⟨hc0,zad h fun hc1 h=>zab h (fun h=>⟨by decide +kernel,⟨by decide +kernel,⟨hc0,⟨hc0,(zhf hQ k) _ _ _ _ h⟩⟩⟩⟩) (fun h=>(zhf hQ k) _ _ _ _ h)⟩⟩⟩) (fun h=>zag (Q:=Q) (e:=zdo) h hQ)))
theorem zt6 (l:Vector Bool 256) (Q:CallOut→Prop):zac zbg zbY zcI zbW zcf [.pv (.arr .b 256 l)] [] Q =
  (zah zbg zbY [true,true,false,true,false] zcf (zdW (255:Int) l (Vector.replicate 4 (0:UInt64)) (Vector.replicate 4 (0:UInt64))) (fnK zbg zcI zbW Q)):=by kernel_rfl
theorem zuQ {k:Nat} (l:Vector Bool 256) {r} {Q:CallOut→Prop} (h:ref03_Number k l=some r) (hQ:Q (zdo r)):zac zbg zbY zcI zbW zcf [.pv (.arr .b 256 l)] [] Q :=
 Eq.mpr (zt6 l Q) (have h:=(ref03_Number.eq_1 k l).symm.trans h; (zhf hQ _) _ _ _ _ h)
def zds:Ans
 | [.pv (.arr .b 256 l)],[]=>some (none,zdo (uW (bV l)))
 | _,_=>none
theorem zq7:TblOK Tryd.prog theG zh6:=.nil
theorem zg7:FnOK Tryd.prog theG 53 (unW zds):=by
 refine FnOK.ofC (T:=zh6) (nt:=29) (np:=0) (mv:=[]) (nf:=false) (hs:=zbW) (fn:=Tryd.f53) (body:=zcf) zq7 (by kernel_rfl) (by kernel_rfl) (by kernel_rfl) (by kernel_rfl) (c:=zds) (lv:=zbY) ?_
 intro xs mem p out h hp
 unfold zds at h
 split at h
 ·cases h
  obtain ⟨k,hk⟩:=zpx _
  exact zuQ _ hk rfl
 ·cases h
end
end Go.Proofs.YtnolgfdjcipmmaaDoor.M
namespace Go.Proofs.YtnolgfdjcipmmaaDoor.M
open Go
noncomputable section
set_option maxRecDepth 100000
set_option maxHeartbeats 0
noncomputable def zmW:Tbl:=[(35,[],zdL),(52,[],zgZ),(53,[],zds)]
noncomputable def zsS:CfgW:=mkC Tryd.prog theG zmW 19 0 false
def zj1:Nat→List Nat:=fun i=>[]
noncomputable abbrev zmN:Code:=Tryd.f31.body.getD .skip
noncomputable abbrev zrH:List ResultVar:=Tryd.f31.results.toList
def zj7:List Nat:=[]
def zeS (r:Vector UInt64 4 × Bool):CallOut:=⟨.tup [.pv (.arr .u64 4 r.1),.pv (.sc .b r.2)],[],true,[]⟩
theorem zB8 (a:Vector UInt64 4) (b:Vector UInt64 4) (Q:CallOut→Prop):zac zsS zj1 zrH zj7 zmN [.pv (.arr .u64 4 a),.pv (.arr .u64 4 b)] [] Q =
  (Q (zeS ((uW (bV (zbp (((bV (zbp (uV a)))+(bV (zbp (uV b))))+(Bool.toNat false))))),(decide ((115792089237316195423570985008687907853269984665640564039457584007913129639936:Nat)≤(((bV (zbp (uV a)))+(bV (zbp (uV b))))+(Bool.toNat false))))))):=by kernel_rfl
theorem zBi (a:Vector UInt64 4) (b:Vector UInt64 4) {Q:CallOut→Prop} (h:Q (zeS (ref03_Add a b))):zac zsS zj1 zrH zj7 zmN [.pv (.arr .u64 4 a),.pv (.arr .u64 4 b)] [] Q :=
 Eq.mpr (zB8 a b Q) (have h:=Eq.mp (congrArg (fun r=>Q (zeS r)) (ref03_Add.eq_1 a b)) h; h)
def zg8:Ans
 | [.pv (.arr .u64 4 a),.pv (.arr .u64 4 b)],[]=>some (none,zeS ((addV a b,addB a b)))
 | _,_=>none
theorem zwc:TblOK Tryd.prog theG zmW:=.cons ⟨by kernel_rfl,zgM⟩ (.cons ⟨by kernel_rfl,zqh⟩ (.cons ⟨by kernel_rfl,zg7⟩ (.nil)))
theorem zqy:FnOK Tryd.prog theG 31 (unW zg8):=by
 refine FnOK.ofC (T:=zmW) (nt:=19) (np:=0) (mv:=[]) (nf:=false) (hs:=zj7) (fn:=Tryd.f31) (body:=zmN) zwc (by kernel_rfl) (by kernel_rfl) (by kernel_rfl) (by kernel_rfl) (c:=zg8) (lv:=zj1) ?_
 intro xs mem p out h hp
 unfold zg8 at h
 split at h
 ·cases h
  exact zBi _ _ (congrArg zeS (zuJ _ _))
 ·cases h
end
end Go.Proofs.YtnolgfdjcipmmaaDoor.M
namespace Go.Proofs.YtnolgfdjcipmmaaDoor.M
open Go
noncomputable section
set_option maxRecDepth 100000
set_option maxHeartbeats 0
noncomputable def zm0:Tbl:=[]
noncomputable def zcH:CfgW:=mkC Tryd.prog theG zm0 15 0 false
def zdQ:Nat→List Nat:=fun i=>bif Nat.beq i 0 then [1,2,3]else []
noncomputable abbrev zeu:Code:=Tryd.f54.body.getD .skip
noncomputable abbrev zfA:List ResultVar:=Tryd.f54.results.toList
def zd0:List Nat:=[]
def ze6 (r:Vector Bool 256):CallOut:=⟨.pv (.arr .b 256 r),[],true,[]⟩
def zhS (i:Int) (x_:Vector Bool 256) (t2:Vector Bool 256):St:=⟨[(1,.p 60000 []),(2,.p 60001 []),(3,.pv (.sc .i i))],[(60000,.box (.pv (.arr .b 256 x_))),(60001,.box (.pv (.arr .b 256 t2)))]⟩
theorem zzX (i:Int) (x_:Vector Bool 256) (t2:Vector Bool 256) (Q:CallOut→Prop):zas zcH zdQ [true,false,true,false] zeu (zhS i x_ t2) (fnK zcH zfA zd0 Q) =
  (zaf (decide (i < (256:Int))) ((((0:Int)≤i)∧(i < (256:Int)))∧((((0:Int)≤i)∧(i < (256:Int)))∧(zah zcH zdQ [true,false,true,false] zeu (zhS (w64 (i+(1:Int))) (Vector.setIfInBounds x_ (Int.toNat i) (!(List.getD (Vector.toList x_) (Int.toNat i) false))) t2) (fnK zcH zfA zd0 Q)))) (Q (ze6 x_))):=by kernel_rfl
theorem zpS {r:Vector Bool 256} {Q:CallOut→Prop} (hQ:Q (ze6 r)):∀ k:Nat,(∀ (i:Int) (x_:Vector Bool 256) (t2:Vector Bool 256),ref03_not_h0 k i x_ t2=some r→zah zcH zdQ [true,false,true,false] zeu (zhS i x_ t2) (fnK zcH zfA zd0 Q))
 | 0=>fun _ _ _ h=>zb9 h
 | k+1=>fun i x_ t2 h=>zal (Eq.mpr (zzX i x_ t2 Q) (have h:=(ref03_not_h0.eq_2 i x_ t2 k).symm.trans h; zab h (fun h=>zad h fun hc0 h=>⟨hc0,(zpS hQ k) _ _ _ h⟩) (fun h=>zag (Q:=Q) (e:=ze6) h hQ)))
theorem zBN (x_0:Vector Bool 256) (Q:CallOut→Prop):zac zcH zdQ zfA zd0 zeu [.pv (.arr .b 256 x_0)] [] Q =
  (zah zcH zdQ [true,false,true,false] zeu (zhS (0:Int) x_0 (Vector.replicate 256 false)) (fnK zcH zfA zd0 Q)):=by kernel_rfl
theorem zBJ {k:Nat} (x_0:Vector Bool 256) {r} {Q:CallOut→Prop} (h:ref03_not k x_0=some r) (hQ:Q (ze6 r)):zac zcH zdQ zfA zd0 zeu [.pv (.arr .b 256 x_0)] [] Q :=
 Eq.mpr (zBN x_0 Q) (have h:=(ref03_not.eq_1 k x_0).symm.trans h; (zpS hQ _) _ _ _ h)
def zjm:Ans
 | [.pv (.arr .b 256 x_0)],[]=>some (none,ze6 (bNot x_0))
 | _,_=>none
theorem zyd:TblOK Tryd.prog theG zm0:=.nil
theorem zAw:FnOK Tryd.prog theG 54 (unW zjm):=by
 refine FnOK.ofC (T:=zm0) (nt:=15) (np:=0) (mv:=[]) (nf:=false) (hs:=zd0) (fn:=Tryd.f54) (body:=zeu) zyd (by kernel_rfl) (by kernel_rfl) (by kernel_rfl) (by kernel_rfl) (c:=zjm) (lv:=zdQ) ?_
 intro xs mem p out h hp
 unfold zjm at h
 split at h
 ·cases h
  obtain ⟨k,hk⟩:=zuO _
  exact zBJ _ hk rfl
 ·cases h
end
end Go.Proofs.YtnolgfdjcipmmaaDoor.M
namespace Go.Proofs.YtnolgfdjcipmmaaDoor.M
open Go
noncomputable section
set_option maxRecDepth 100000
set_option maxHeartbeats 0
noncomputable def zmT:Tbl:=[(35,[],zdL),(54,[],zjm),(52,[],zgZ),(53,[],zds)]
noncomputable def zta:CfgW:=mkC Tryd.prog theG zmT 21 0 false
def zkm:Nat→List Nat:=fun i=>[]
noncomputable abbrev zmu:Code:=Tryd.f32.body.getD .skip
noncomputable abbrev ztC:List ResultVar:=Tryd.f32.results.toList
def zkL:List Nat:=[]
def zeM (r:Vector UInt64 4 × Bool):CallOut:=⟨.tup [.pv (.arr .u64 4 r.1),.pv (.sc .b r.2)],[],true,[]⟩
theorem zBr (a:Vector UInt64 4) (b:Vector UInt64 4) (Q:CallOut→Prop):zac zta zkm ztC zkL zmu [.pv (.arr .u64 4 a),.pv (.arr .u64 4 b)] [] Q =
  (Q (zeM ((uW (bV (zbp (((bV (zbp (uV a)))+(bV (bNot (zbp (uV b)))))+(Bool.toNat true))))),(!(decide ((115792089237316195423570985008687907853269984665640564039457584007913129639936:Nat)≤(((bV (zbp (uV a)))+(bV (bNot (zbp (uV b)))))+(Bool.toNat true)))))))):=by kernel_rfl
theorem zBt (a:Vector UInt64 4) (b:Vector UInt64 4) {Q:CallOut→Prop} (h:Q (zeM (ref03_Sub a b))):zac zta zkm ztC zkL zmu [.pv (.arr .u64 4 a),.pv (.arr .u64 4 b)] [] Q :=
 Eq.mpr (zBr a b Q) (have h:=Eq.mp (congrArg (fun r=>Q (zeM r)) (ref03_Sub.eq_1 a b)) h; h)
def zfq:Ans
 | [.pv (.arr .u64 4 a),.pv (.arr .u64 4 b)],[]=>some (none,zeM ((subV a b,subB a b)))
 | _,_=>none
theorem zyc:TblOK Tryd.prog theG zmT:=.cons ⟨by kernel_rfl,zgM⟩ (.cons ⟨by kernel_rfl,zAw⟩ (.cons ⟨by kernel_rfl,zqh⟩ (.cons ⟨by kernel_rfl,zg7⟩ (.nil))))
theorem zkq:FnOK Tryd.prog theG 32 (unW zfq):=by
 refine FnOK.ofC (T:=zmT) (nt:=21) (np:=0) (mv:=[]) (nf:=false) (hs:=zkL) (fn:=Tryd.f32) (body:=zmu) zyc (by kernel_rfl) (by kernel_rfl) (by kernel_rfl) (by kernel_rfl) (c:=zfq) (lv:=zkm) ?_
 intro xs mem p out h hp
 unfold zfq at h
 split at h
 ·cases h
  exact zBt _ _ (congrArg zeM (ztW _ _))
 ·cases h
end
end Go.Proofs.YtnolgfdjcipmmaaDoor.M
namespace Go.Proofs.YtnolgfdjcipmmaaDoor.M
open Go
noncomputable section
set_option maxRecDepth 100000
set_option maxHeartbeats 0
noncomputable def zlb:Tbl:=[(35,[],zdL)]
noncomputable def zce:CfgW:=mkC Tryd.prog theG zlb 26 0 false
def zdn:Nat→List Nat:=fun i=>bif Nat.beq i 0 then [5,6,7]else []
noncomputable abbrev zdR:Code:=Tryd.f12.body.getD .skip
noncomputable abbrev zeF:List ResultVar:=Tryd.f12.results.toList
def zdi:List Nat:=[]
def zcL (r:Bool):CallOut:=⟨.pv (.sc .b r),[],true,[]⟩
def zgN (i:Int) (x_:Vector Bool 256) (y:Vector Bool 256):St:=⟨[(5,.p 60000 []),(6,.p 60001 []),(7,.pv (.sc .i i))],[(60000,.box (.pv (.arr .b 256 x_))),(60001,.box (.pv (.arr .b 256 y)))]⟩
theorem zwJ (i:Int) (x_:Vector Bool 256) (y:Vector Bool 256) (Q:CallOut→Prop):zas zce zdn [true,true,false,true,false] zdR (zgN i x_ y) (fnK zce zeF zdi Q) =
  (zaf (decide ((0:Int)≤i)) ((((0:Int)≤i)∧(i < (256:Int)))∧((((0:Int)≤i)∧(i < (256:Int)))∧(zaf (!(decide ((List.getD (Vector.toList x_) (Int.toNat i) false)=(List.getD (Vector.toList y) (Int.toNat i) false)))) ((((0:Int)≤i)∧(i < (256:Int)))∧(Q (zcL (List.getD (Vector.toList y) (Int.toNat i) false)))) (zah zce zdn [true,true,false,true,false] zdR (zgN (w64 (i - (1:Int))) x_ y) (fnK zce zeF zdi Q))))) (Q (zcL false))):=by kernel_rfl
theorem znY {r:Bool} {Q:CallOut→Prop} (hQ:Q (zcL r)):∀ k:Nat,(∀ (i:Int) (x_:Vector Bool 256) (y:Vector Bool 256),ref03_Less_h0 k i x_ y=some r→zah zce zdn [true,true,false,true,false] zdR (zgN i x_ y) (fnK zce zeF zdi Q))
 | 0=>fun _ _ _ h=>zb9 h
 | k+1=>fun i x_ y h=>zal (Eq.mpr (zwJ i x_ y Q) (have h:=(ref03_Less_h0.eq_2 i x_ y k).symm.trans h; zab h (fun h=>zad h fun hc0 h=>⟨hc0,zab h (fun h=>⟨hc0,zag (Q:=Q) (e:=zcL) h hQ⟩) (fun h=>(znY hQ k) _ _ _ h)⟩) (fun h=>zag (Q:=Q) (e:=zcL) h hQ)))
theorem zAJ (a:Vector UInt64 4) (b:Vector UInt64 4) (Q:CallOut→Prop):zac zce zdn zeF zdi zdR [.pv (.arr .u64 4 a),.pv (.arr .u64 4 b)] [] Q =
  (zah zce zdn [true,true,false,true,false] zdR (zgN (255:Int) (zbp (uV a)) (zbp (uV b))) (fnK zce zeF zdi Q)):=by kernel_rfl
theorem zyW {k:Nat} (a:Vector UInt64 4) (b:Vector UInt64 4) {r} {Q:CallOut→Prop} (h:ref03_Less k a b=some r) (hQ:Q (zcL r)):zac zce zdn zeF zdi zdR [.pv (.arr .u64 4 a),.pv (.arr .u64 4 b)] [] Q :=
 Eq.mpr (zAJ a b Q) (have h:=(ref03_Less.eq_1 k a b).symm.trans h; (znY hQ _) _ _ _ h)
def zf2:Ans
 | [.pv (.arr .u64 4 a),.pv (.arr .u64 4 b)],[]=>some (none,zcL (subB a b))
 | _,_=>none
theorem zuD:TblOK Tryd.prog theG zlb:=.cons ⟨by kernel_rfl,zgM⟩ (.nil)
theorem zoO:FnOK Tryd.prog theG 12 (unW zf2):=by
 refine FnOK.ofC (T:=zlb) (nt:=26) (np:=0) (mv:=[]) (nf:=false) (hs:=zdi) (fn:=Tryd.f12) (body:=zdR) zuD (by kernel_rfl) (by kernel_rfl) (by kernel_rfl) (by kernel_rfl) (c:=zf2) (lv:=zdn) ?_
 intro xs mem p out h hp
 unfold zf2 at h
 split at h
 ·cases h
  obtain ⟨k,hk⟩:=zrZ _ _
  exact zyW _ _ hk rfl
 ·cases h
end
end Go.Proofs.YtnolgfdjcipmmaaDoor.M
namespace Go.Proofs.YtnolgfdjcipmmaaDoor.M
open Go
noncomputable section
set_option maxRecDepth 100000
set_option maxHeartbeats 0
noncomputable def zkV:Tbl:=[(35,[],zdL),(53,[],zds),(12,[],zf2),(32,[],zfq)]
noncomputable def zaL:CfgW:=mkC Tryd.prog theG zkV 66 0 false
def zbi:Nat→List Nat:=fun i=>bif Nat.beq i 2 then [3,4,5,8,9,10,11,12,13]else bif Nat.beq i 0 then [3,4,5,8,9,10,11]else []
noncomputable abbrev zbw:Code:=Tryd.f47.body.getD .skip
noncomputable abbrev zbL:List ResultVar:=Tryd.f47.results.toList
def zbk:List Nat:=[]
def zcN (r:Vector UInt64 4 × Vector UInt64 4 × Int):CallOut:=⟨.tup [.pv (.arr .u64 4 r.1),.pv (.arr .u64 4 r.2.1),.pv (.sc .i r.2.2)],[],true,[]⟩
def zd6 (i:Int) (b:Vector UInt64 4) (t4:Vector UInt64 4) (t5:Vector UInt64 4) (x_:Vector Bool 256) (q:Vector Bool 256) (r_:Vector Bool 256):St:=⟨[(3,.p 60000 []),(4,.p 60001 []),(5,.p 60002 []),(8,.p 60003 []),(9,.p 60004 []),(10,.p 60005 []),(11,.pv (.sc .i i))],[(60000,.box (.pv (.arr .u64 4 b))),(60001,.box (.pv (.arr .u64 4 t4))),(60002,.box (.pv (.arr .u64 4 t5))),(60003,.box (.pv (.arr .b 256 x_))),(60004,.box (.pv (.arr .b 256 q))),(60005,.box (.pv (.arr .b 256 r_)))]⟩
def zgK (i:Int) (top:Bool) (k_:Int) (b:Vector UInt64 4) (t4:Vector UInt64 4) (t5:Vector UInt64 4) (x_:Vector Bool 256) (q:Vector Bool 256) (r_:Vector Bool 256):St:=⟨[(3,.p 60000 []),(4,.p 60001 []),(5,.p 60002 []),(8,.p 60003 []),(9,.p 60004 []),(10,.p 60005 []),(11,.pv (.sc .i i)),(12,.pv (.sc .b top)),(13,.pv (.sc .i k_))],[(60000,.box (.pv (.arr .u64 4 b))),(60001,.box (.pv (.arr .u64 4 t4))),(60002,.box (.pv (.arr .u64 4 t5))),(60003,.box (.pv (.arr .b 256 x_))),(60004,.box (.pv (.arr .b 256 q))),(60005,.box (.pv (.arr .b 256 r_)))]⟩
theorem zwq (i:Int) (b:Vector UInt64 4) (t4:Vector UInt64 4) (t5:Vector UInt64 4) (x_:Vector Bool 256) (q:Vector Bool 256) (r_:Vector Bool 256) (Q:CallOut→Prop):zas zaL zbi [true,true,true,true,true,false,true,false] zbw (zd6 i b t4 t5 x_ q r_) (fnK zaL zbL zbk Q) =
  (zaf (decide ((0:Int)≤i)) ((((0:Int)≤(255:Int))∧((255:Int) < (256:Int)))∧(zah zaL zbi [true,true,true,true,true,false,true,false,false,true,false,false,true,false,true,false] zbw (zgK i (List.getD (Vector.toList r_) (255:Nat) false) (255:Int) b t4 t5 x_ q r_) (fnK zaL zbL zbk Q))) (Q (zcN ((uW (bV q)),(uW (bV r_)),(0:Int))))):=by kernel_rfl
theorem zxk (i:Int) (top:Bool) (k_:Int) (b:Vector UInt64 4) (t4:Vector UInt64 4) (t5:Vector UInt64 4) (x_:Vector Bool 256) (q:Vector Bool 256) (r_:Vector Bool 256) (Q:CallOut→Prop):zas zaL zbi [true,true,true,true,true,false,true,false,false,true,false,false,true,false,true,false] zbw (zgK i top k_ b t4 t5 x_ q r_) (fnK zaL zbL zbk Q) =
 (let s0:=((((0:Int)≤i)∧(i < (256:Int)))∧(zah zaL zbi [true,true,true,true,true,false,true,false] zbw (zd6 (w64 (i - (1:Int))) b t4 t5 x_ (Vector.setIfInBounds q (Int.toNat i) true) (zbp (uV (subV (uW (bV (Vector.setIfInBounds r_ (0:Nat) (List.getD (Vector.toList x_) (Int.toNat i) false)))) b)))) (fnK zaL zbL zbk Q)));(zaf (decide ((0:Int) < k_)) ((((0:Int)≤(w64 (k_ - (1:Int))))∧((w64 (k_ - (1:Int))) < (256:Int)))∧((((0:Int)≤k_)∧(k_ < (256:Int)))∧(zah zaL zbi [true,true,true,true,true,false,true,false,false,true,false,false,true,false,true,false] zbw (zgK i top (w64 (k_ - (1:Int))) b t4 t5 x_ q (Vector.setIfInBounds r_ (Int.toNat k_) (List.getD (Vector.toList r_) (Int.toNat (w64 (k_ - (1:Int)))) false))) (fnK zaL zbL zbk Q)))) ((((0:Int)≤i)∧(i < (256:Int)))∧((((0:Int)≤(0:Int))∧((0:Int) < (256:Int)))∧(zaf (eqb top false) (zaf (bif false then true else(!(subB (uW (bV (Vector.setIfInBounds r_ (0:Nat) (List.getD (Vector.toList x_) (Int.toNat i) false)))) b)))  s0  (zah zaL zbi [true,true,true,true,true,false,true,false] zbw (zd6 (w64 (i - (1:Int))) b t4 t5 x_ q (Vector.setIfInBounds r_ (0:Nat) (List.getD (Vector.toList x_) (Int.toNat i) false))) (fnK zaL zbL zbk Q)))  s0 ))))):=by kernel_rfl
theorem zd2 {r:Vector UInt64 4 × Vector UInt64 4 × Int} {Q:CallOut→Prop} (hQ:Q (zcN r)):∀ k:Nat,(∀ (i:Int) (b:Vector UInt64 4) (t4:Vector UInt64 4) (t5:Vector UInt64 4) (x_:Vector Bool 256) (q:Vector Bool 256) (r_:Vector Bool 256),ref03_Over_h0 k i b t4 t5 x_ q r_=some r→zah zaL zbi [true,true,true,true,true,false,true,false] zbw (zd6 i b t4 t5 x_ q r_) (fnK zaL zbL zbk Q))∧(∀ (i:Int) (top:Bool) (k_:Int) (b:Vector UInt64 4) (t4:Vector UInt64 4) (t5:Vector UInt64 4) (x_:Vector Bool 256) (q:Vector Bool 256) (r_:Vector Bool 256),ref03_Over_h2 k i top k_ b t4 t5 x_ q r_=some r→zah zaL zbi [true,true,true,true,true,false,true,false,false,true,false,false,true,false,true,false] zbw (zgK i top k_ b t4 t5 x_ q r_) (fnK zaL zbL zbk Q))
 | 0=>⟨fun _ _ _ _ _ _ _ h=>zb9 h,fun _ _ _ _ _ _ _ _ _ h=>zb9 h⟩
 | k+1=>⟨fun i b t4 t5 x_ q r_ h=>zal (Eq.mpr (zwq i b t4 t5 x_ q r_ Q) (have h:=(ref03_Over_h0.eq_2 i b t4 t5 x_ q r_ k).symm.trans h; zab h (fun h=>⟨by decide +kernel,(zd2 hQ k).2 _ _ _ _ _ _ _ _ _ h⟩) (fun h=>zag (Q:=Q) (e:=zcN) h hQ))),
  fun i top k_ b t4 t5 x_ q r_ h=>zal (Eq.mpr (zxk i top k_ b t4 t5 x_ q r_ Q) (have h:=(ref03_Over_h2.eq_2 i top k_ b t4 t5 x_ q r_ k).symm.trans h; zab h (fun h=>zad h fun hc0 h=>zad h fun hc1 h=>(zd2 hQ k).2 _ _ _ _ _ _ _ _ _ h) (fun h=>zad h fun hc0 h=>⟨by decide +kernel,zab h (fun h=>zab h (fun h=>⟨hc0,(zd2 hQ k).1 _ _ _ _ _ _ _ h⟩) (fun h=>(zd2 hQ k).1 _ _ _ _ _ _ _ h)) (fun h=>⟨hc0,(zd2 hQ k).1 _ _ _ _ _ _ _ h⟩)⟩)))⟩
theorem zz1 (a:Vector UInt64 4) (b:Vector UInt64 4) (Q:CallOut→Prop):zac zaL zbi zbL zbk zbw [.pv (.arr .u64 4 a),.pv (.arr .u64 4 b)] [] Q =
  (zaf (decide ((Vector.toList b)=(Vector.toList (Vector.replicate 4 (0:UInt64))))) (Q (zcN ((Vector.replicate 4 (0:UInt64)),(Vector.replicate 4 (0:UInt64)),(2:Int)))) (zah zaL zbi [true,true,true,true,true,false,true,false] zbw (zd6 (255:Int) b (Vector.replicate 4 (0:UInt64)) (Vector.replicate 4 (0:UInt64)) (zbp (uV a)) (Vector.replicate 256 false) (Vector.replicate 256 false)) (fnK zaL zbL zbk Q))):=by kernel_rfl
theorem zz6 {k:Nat} (a:Vector UInt64 4) (b:Vector UInt64 4) {r} {Q:CallOut→Prop} (h:ref03_Over k a b=some r) (hQ:Q (zcN r)):zac zaL zbi zbL zbk zbw [.pv (.arr .u64 4 a),.pv (.arr .u64 4 b)] [] Q :=
 Eq.mpr (zz1 a b Q) (have h:=(ref03_Over.eq_1 k a b).symm.trans h; zab h (fun h=>zag (Q:=Q) (e:=zcN) h hQ) (fun h=>(zd2 hQ _).1 _ _ _ _ _ _ _ h))
def zhC:Ans
 | [.pv (.arr .u64 4 a),.pv (.arr .u64 4 b)],[]=>some (none,zcN ((ovQ a b,ovR a b,ovE b)))
 | _,_=>none
theorem zuv:TblOK Tryd.prog theG zkV:=.cons ⟨by kernel_rfl,zgM⟩ (.cons ⟨by kernel_rfl,zg7⟩ (.cons ⟨by kernel_rfl,zoO⟩ (.cons ⟨by kernel_rfl,zkq⟩ (.nil))))
theorem zwp:FnOK Tryd.prog theG 47 (unW zhC):=by
 refine FnOK.ofC (T:=zkV) (nt:=66) (np:=0) (mv:=[]) (nf:=false) (hs:=zbk) (fn:=Tryd.f47) (body:=zbw) zuv (by kernel_rfl) (by kernel_rfl) (by kernel_rfl) (by kernel_rfl) (c:=zhC) (lv:=zbi) ?_
 intro xs mem p out h hp
 unfold zhC at h
 split at h
 ·cases h
  obtain ⟨k,hk⟩:=ztl _ _
  exact zz6 _ _ hk rfl
 ·cases h
end
end Go.Proofs.YtnolgfdjcipmmaaDoor.M
