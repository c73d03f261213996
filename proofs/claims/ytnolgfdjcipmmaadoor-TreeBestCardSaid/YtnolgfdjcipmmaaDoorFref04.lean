/- Part of the proofs: what functions of the program do: plain functions, and the walks that show it. No condition. -/
import Derived.KernelRfl
import Derived.Test.YtnolgfdjcipmmaaDoorProg
import Derived.Test.YtnolgfdjcipmmaaDoorLe
import Derived.Test.YtnolgfdjcipmmaaDoorFref03
import Derived.Test.YtnolgfdjcipmmaaDoorSwords
import Derived.Test.YtnolgfdjcipmmaaDoorSbigS
import Derived.Test.YtnolgfdjcipmmaaDoorSbigB
import Derived.Test.YtnolgfdjcipmmaaDoorStarS
import Derived.Test.YtnolgfdjcipmmaaDoorSshaK
set_option linter.unusedVariables false
set_option linter.unusedSimpArgs false
set_option autoImplicit false
namespace Go.Proofs.YtnolgfdjcipmmaaDoor.M
open Go
noncomputable section
def ref04_Bits_h2:Nat→Int→UInt32→Int→(Vector UInt8 32)→Option (UInt32)
 | 0,_,_,_,_=>none
 | k+1,n,m,k_,h_=>bif decide (k_≤(3:Int)) then(bif decide ((0:Int)≤(w64 (n - k_))) then(if((0:Int)≤(w64 (n - k_)))∧((w64 (n - k_)) < (32:Int)) then
     ref04_Bits_h2 k n (((256:UInt32)*m)+(UInt8.toUInt32 (List.getD (Vector.toList h_) (Int.toNat (w64 (n - k_))) (0:UInt8)))) (w64 (k_+(1:Int))) h_
    else none)
    else(ref04_Bits_h2 k n ((256:UInt32)*m) (w64 (k_+(1:Int))) h_))
   else(bif decide ((8388607:UInt32) < m) then(some (((16777216:UInt32)*(UInt32.ofInt (w64 (n+(1:Int)))))+(m / (256:UInt32))))
    else(some (((16777216:UInt32)*(UInt32.ofInt n))+m)))
def ref04_Bits_h0:Nat→Int→Int→(Vector UInt8 32)→Option (UInt32)
 | 0,_,_,_=>none
 | k+1,n,i,h_=>bif decide (i < (32:Int)) then(if((0:Int)≤i)∧(i < (32:Int)) then
    bif !(decide ((List.getD (Vector.toList h_) (Int.toNat i) (0:UInt8))=(0:UInt8))) then(ref04_Bits_h0 k (w64 (i+(1:Int))) (w64 (i+(1:Int))) h_)
     else(ref04_Bits_h0 k n (w64 (i+(1:Int))) h_)
   else none)
   else(bif decide (n=(0:Int)) then(some (0:UInt32))
    else(ref04_Bits_h2 k n (0:UInt32) (1:Int) h_))
def ref04_Bits (k:Nat) (t:Vector UInt64 4):Option (UInt32) :=
 ref04_Bits_h0 k (0:Int) (0:Int) (zlX (uV t))
theorem zIM {x i:Nat} (h1:2 ^ (8*i)≤x) (h2:x < 2 ^ (8*(i+1))):byN x=i+1:=by
 have hx:x≠0:=by have:=Nat.two_pow_pos (8*i); omega
 have a:lenN x≤8*(i+1):=zc2.2 h2
 have b:¬ lenN x≤8*i:=by rw[zc2]; omega
 unfold byN
 omega
theorem zAn (t i:Nat) (h:i < 32):(List.getD (Vector.toList (zlX t)) i 0).toNat=t / 2 ^ (8*i) % 256:=by
 rw[zAA _ _ h,UInt8.toNat_ofNat']
theorem zEZ (t i:Nat):t / 2 ^ (8*i)=256*(t / 2 ^ (8*(i+1)))+t / 2 ^ (8*i) % 256:=by
 rw[show 8*(i+1)=8*i+8 by omega,Nat.pow_add,←Nat.div_div_eq_div_mul]
 omega
theorem zHE (t i:Nat):t % 2 ^ (8*(i+1))=t % 2 ^ (8*i)+2 ^ (8*i)*(t / 2 ^ (8*i) % 256):=by
 rw[show 8*(i+1)=8*i+8 by omega,Nat.pow_add,Nat.mod_mul]
theorem zw1 (t:Nat) (ht:t≠0) (h256:t < 2 ^ 256) (R:Vector UInt64 4) (hR:uV R=t):Ev (fun k=>ref04_Bits_h2 k ((byN t:Nat):Int) 0 1 (zlX t)) (zdE R):=by
 have hb:=zGh h256
 obtain ⟨h0,h1,h2⟩:=zoB ht
 have hlt:t < 2 ^ (8*byN t):=Nat.lt_of_lt_of_le h2 (Nat.pow_le_pow_right (by decide) (by unfold byN; omega))
 obtain ⟨p1,p2⟩:=zwg ht
 refine Ev.inv (H:=fun k i m=>ref04_Bits_h2 k ((byN t:Nat):Int) m i (zlX t)) (n:=4)
  (fun i m=>1≤i∧m.toNat=(if byN t≤i - 1 then t*2 ^ (8*(i - 1 - byN t))else t / 2 ^ (8*(byN t - (i - 1))))∧m.toNat < 2 ^ (8*(i - 1))) ?_ ?_ 3 1 0 rfl ?_
 ·rintro i m hi ⟨hi1,hm,hml⟩ next
  have hml2:m.toNat < 65536:=by
   have:i - 1≤2:=by omega
   have:=Nat.pow_le_pow_right (show 0 < 2 by decide) (show 8*(i - 1)≤16 by omega)
   omega
  have ew:w64 (((byN t:Nat):Int) - (i:Int))=((byN t:Nat):Int) - (i:Int):=zaj (by omega) (by omega)
  have e256:(256*m).toNat=256*m.toNat:=by
   rw[UInt32.toNat_mul,show (256:UInt32).toNat=256 from rfl]
   omega
  have pw:2 ^ (8*(i+1 - 1))=256*2 ^ (8*(i - 1)):=by
   rw[show 8*(i+1 - 1)=8+8*(i - 1) by omega,Nat.pow_add]
  by_cases c:i≤byN t
  ·have hby:=zAn t (byN t - i) (by omega)
   have hbl:=(List.getD (Vector.toList (zlX t)) (byN t - i) 0).toNat_lt
   have ev:(256*m+UInt8.toUInt32 (List.getD (Vector.toList (zlX t)) (byN t - i) 0)).toNat=256*m.toNat+t / 2 ^ (8*(byN t - i)) % 256:=by
    rw[UInt32.toNat_add,e256,UInt8.toNat_toUInt32,hby]
    omega
   have hmod:t / 2 ^ (8*(byN t - i)) % 256 < 256:=Nat.mod_lt _ (by decide)
   refine Ev.step (fun k=>?_) (next (256*m+UInt8.toUInt32 (List.getD (Vector.toList (zlX t)) (byN t - i) 0)) ⟨by omega,?_,?_⟩)
   ·rw[ref04_Bits_h2.eq_2,zan (by omega),ew,zan (by omega),if_pos (by omega),show Int.toNat (((byN t:Nat):Int) - (i:Int))=byN t - i by omega,zaj (by omega) (by omega)]
   ·rw[ev]
    have hs:=zEZ t (byN t - i)
    by_cases d:byN t≤i
    ·have hbi:byN t=i:=by omega
     rw[if_pos (by omega)]
     rw[if_neg (by omega),show byN t - (i - 1)=byN t - i+1 by omega]at hm
     rw[hm,←hs,show byN t - i=0 by omega,show i+1 - 1 - byN t=0 by omega,Nat.mul_zero,Nat.pow_zero,Nat.mul_one,Nat.div_one]
    ·rw[if_neg (by omega)]
     rw[if_neg (by omega),show byN t - (i - 1)=byN t - i+1 by omega]at hm
     rw[hm,←hs]
     rfl
   ·rw[ev,pw]
    omega
  ·refine Ev.step (fun k=>?_) (next (256*m) ⟨by omega,?_,?_⟩)
   ·rw[ref04_Bits_h2.eq_2,zan (by omega),ew,zau (by omega),zaj (by omega) (by omega)]
   ·rw[e256,if_pos (by omega)]
    rw[if_pos (by omega)]at hm
    rw[hm,show 8*(i+1 - 1 - byN t)=8+8*(i - 1 - byN t) by omega,Nat.pow_add]
    generalize 2 ^ (8*(i - 1 - byN t))=P
    rw[show 2 ^ 8=256 from rfl,Nat.mul_left_comm]
   ·rw[e256,pw]
    omega
 ·rintro m ⟨_,hm,_⟩
  refine Ev.done fun k=>?_
  have hx:m.toNat=preX t:=by rw[hm]; rfl
  show ref04_Bits_h2 (k+1) _ m _ _=_
  rw[ref04_Bits_h2.eq_2,zau (by omega)]
  have val:∀ y:UInt32,y.toNat=zht t→some y=some (zdE R):=by
   intro y hy
   exact congrArg some (UInt32.toNat_inj.1 (hy.trans (by rw[zsV,hR])))
  have eo:∀ n:Nat,n < 256→((16777216:UInt32)*UInt32.ofInt ((n:Nat):Int)).toNat=n*16777216:=by
   intro n hn
   rw[UInt32.toNat_mul,show UInt32.ofInt ((n:Nat):Int)=UInt32.ofNat (((n:Nat):Int) % 2 ^ 32).toNat from rfl,UInt32.toNat_ofNat',show (16777216:UInt32).toNat=16777216 from rfl]
   omega
  by_cases c:(8388607:UInt32) < m
  ·rw[zan c,show w64 (((byN t:Nat):Int)+1)=((byN t+1:Nat):Int) by rw[zaj (by omega) (by omega)]; omega]
   rw[UInt32.lt_iff_toNat_lt,hx,show (8388607:UInt32).toNat=8388607 from rfl]at c
   refine val _ ?_
   rw[UInt32.toNat_add,eo _ (by omega),UInt32.toNat_div,hx,p2,if_pos c,show (256:UInt32).toNat=256 from rfl]
   omega
  ·rw[zau c]
   rw[UInt32.lt_iff_toNat_lt,hx,show (8388607:UInt32).toNat=8388607 from rfl]at c
   refine val _ ?_
   rw[UInt32.toNat_add,eo _ (by omega),hx,p2,if_neg c]
   omega
 ·have hb0:byN t≠0:=fun e=>ht (zls.1 e)
  refine ⟨Nat.le_refl _,?_,by decide⟩
  rw[if_neg (by omega),Nat.sub_self,Nat.sub_zero,Nat.div_eq_of_lt hlt]
  rfl
theorem zrX (t:Vector UInt64 4):∃ k,ref04_Bits k t=some (zdE t):=by
 show Ev (fun k=>ref04_Bits k t) _
 refine Ev.same (fun k=>ref04_Bits.eq_1 k t) ?_
 have h256:uV t < 2 ^ 256:=by rw[zdD]; exact zgl t
 refine Ev.inv (H:=fun k i n=>ref04_Bits_h0 k n i (zlX (uV t))) (n:=32) (fun i n=>n=((byN (uV t % 2 ^ (8*i)):Nat):Int)) ?_ ?_ 32 0 0 rfl ?_
 ·intro i n hi hn next
  have hby:=zAn (uV t) i hi
  have hm:=zHE (uV t) i
  have hl:=Nat.mod_lt (uV t) (Nat.two_pow_pos (8*i))
  by_cases c:List.getD (Vector.toList (zlX (uV t))) i 0=0
  ·rw[c,show (0:UInt8).toNat=0 from rfl]at hby
   rw[←hby,Nat.mul_zero,Nat.add_zero]at hm
   refine Ev.step (fun k=>?_) (next n ?_)
   ·rw[ref04_Bits_h0.eq_2,zan (by omega),if_pos (by omega),Int.toNat_natCast,decide_eq_true c,Bool.not_true,cond_false,zaj (by omega) (by omega)]
   ·rw[hm]; exact hn
  ·have hne:uV t / 2 ^ (8*i) % 256≠0:=by
    rw[←hby]
    exact fun e=>c (UInt8.toNat_inj.1 e)
   refine Ev.step (fun k=>?_) (next ((i:Int)+1) ?_)
   ·rw[ref04_Bits_h0.eq_2,zan (by omega),if_pos (by omega),Int.toNat_natCast,decide_eq_false c,Bool.not_false,cond_true,zaj (by omega) (by omega)]
   ·have h1:2 ^ (8*i)≤uV t % 2 ^ (8*(i+1)):=by
     rw[hm]
     have:2 ^ (8*i)*1≤2 ^ (8*i)*(uV t / 2 ^ (8*i) % 256):=Nat.mul_le_mul_left _ (by omega)
     omega
    rw[zIM h1 (Nat.mod_lt _ (Nat.two_pow_pos _))]
    omega
 ·intro n hn
  rw[show 8*32=256 from rfl,Nat.mod_eq_of_lt h256]at hn
  subst hn
  by_cases c:uV t=0
  ·refine Ev.done fun k=>?_
   show ref04_Bits_h0 (k+1) _ _ _=_
   rw[ref04_Bits_h0.eq_2,zau (by omega),zan (by rw[zls.2 c]; rfl),zrh,c]
   unfold zht
   rw[if_pos rfl]
   rfl
  ·have hb0:byN (uV t)≠0:=fun e=>c (zls.1 e)
   refine Ev.step (fun k=>?_) (zw1 (uV t) c h256 t rfl)
   show ref04_Bits_h0 (k+1) _ _ _=_
   rw[ref04_Bits_h0.eq_2,zau (by omega),zau (by omega)]
 ·rw[Nat.mul_zero,Nat.pow_zero,Nat.mod_one,zls.2 rfl]
  rfl
end
end Go.Proofs.YtnolgfdjcipmmaaDoor.M
namespace Go.Proofs.YtnolgfdjcipmmaaDoor.M
open Go
noncomputable section
def ref04_Of_h0:Nat→UInt32→UInt32→Int→Int→(Vector UInt64 4)→(Vector UInt8 32)→Option (Vector UInt64 4 × Int)
 | 0,_,_,_,_,_,_=>none
 | k+1,bits,m,exp,k_,t2,h_=>bif decide (k_ < (3:Int)) then(bif eqb (decide ((32:Int)≤(w64 ((w64 (exp - (3:Int)))+k_)))) true then(bif bif true then(!(decide ((UInt32.toUInt8 (m % (256:UInt32)))=(0:UInt8))))else false then(some ((Vector.replicate 4 (0:UInt64)),(5:Int)))
     else(
        bif eqb (decide ((0:Int)≤(w64 ((w64 (exp - (3:Int)))+k_)))) true then(bif bif true then(decide ((w64 ((w64 (exp - (3:Int)))+k_)) < (32:Int)))else false then(if((0:Int)≤(w64 ((w64 (exp - (3:Int)))+k_)))∧((w64 ((w64 (exp - (3:Int)))+k_)) < (32:Int)) then
        ref04_Of_h0 k bits (m / (256:UInt32)) exp (w64 (k_+(1:Int))) t2 (Vector.setIfInBounds h_ (Int.toNat (w64 ((w64 (exp - (3:Int)))+k_))) (UInt32.toUInt8 (m % (256:UInt32))))
       else none)
       else(ref04_Of_h0 k bits (m / (256:UInt32)) exp (w64 (k_+(1:Int))) t2 h_))
      else(ref04_Of_h0 k bits (m / (256:UInt32)) exp (w64 (k_+(1:Int))) t2 h_)))
    else(
       bif eqb (decide ((0:Int)≤(w64 ((w64 (exp - (3:Int)))+k_)))) true then(bif bif true then(decide ((w64 ((w64 (exp - (3:Int)))+k_)) < (32:Int)))else false then(if((0:Int)≤(w64 ((w64 (exp - (3:Int)))+k_)))∧((w64 ((w64 (exp - (3:Int)))+k_)) < (32:Int)) then
       ref04_Of_h0 k bits (m / (256:UInt32)) exp (w64 (k_+(1:Int))) t2 (Vector.setIfInBounds h_ (Int.toNat (w64 ((w64 (exp - (3:Int)))+k_))) (UInt32.toUInt8 (m % (256:UInt32))))
      else none)
      else(ref04_Of_h0 k bits (m / (256:UInt32)) exp (w64 (k_+(1:Int))) t2 h_))
     else(ref04_Of_h0 k bits (m / (256:UInt32)) exp (w64 (k_+(1:Int))) t2 h_)))
   else(
      bif eqb (decide (((bits / (8388608:UInt32)) % (2:UInt32))=(1:UInt32))) false then(bif eqb (bif false then true else(decide ((Vector.toList (zjY h_))=(Vector.toList (uW (0:Nat)))))) false then(bif bif false then true else(!(decide ((zdE (zjY h_))=bits))) then(some ((Vector.replicate 4 (0:UInt64)),(5:Int)))
      else(some ((zjY h_),(0:Int))))
     else(some ((Vector.replicate 4 (0:UInt64)),(5:Int))))
    else(some ((Vector.replicate 4 (0:UInt64)),(5:Int))))
def ref04_Of (k:Nat) (bits:UInt32):Option (Vector UInt64 4 × Int) :=
 ref04_Of_h0 k bits (bits % (8388608:UInt32)) (((UInt32.toNat (bits / (16777216:UInt32))):Nat):Int) (0:Int) (Vector.replicate 4 (0:UInt64)) (Vector.replicate 32 (0:UInt8))
theorem zwF (b:UInt32):∃ k,ref04_Of k b=some (ofV b,ofE b):=by
 show Ev (fun k=>ref04_Of k b) _
 refine Ev.same (fun k=>ref04_Of.eq_1 k b) ?_
 have hbl:=b.toNat_lt
 have he:(b / 16777216).toNat=b.toNat / 16777216:=by rw[UInt32.toNat_div]; rfl
 have hm:(b % 8388608).toNat=b.toNat % 8388608:=by rw[UInt32.toNat_mod]; rfl
 have hs:decide (b / 8388608 % 2=1)=!decide (b.toNat / 8388608 % 2=0):=by
  rw[←decide_not,decide_eq_decide,←UInt32.toNat_inj,UInt32.toNat_mod,UInt32.toNat_div,show (8388608:UInt32).toNat=8388608 from rfl,show (2:UInt32).toNat=2 from rfl,show (1:UInt32).toNat=1 from rfl]
  omega
 rw[he]
 generalize eE:b.toNat / 16777216=E at *
 generalize eM:b.toNat % 8388608=M at *
 have hE:E < 256:=by omega
 have hM:M < 2 ^ 24:=by omega
 have tg:tgtN b.toNat=if E≤3 then M / 2 ^ (8*(3 - E))else M*2 ^ (8*(E - 3)):=by unfold tgtN; rw[eE,eM]
 have mb:∀ j t,t < 8→M.testBit (8*j+t)=(M / 2 ^ (8*j) % 256).testBit t:=by
  intro j t ht
  rw[show 256=2 ^ 8 from rfl,Nat.testBit_mod_two_pow,decide_eq_true ht,Bool.true_and,Nat.testBit_div_two_pow,Nat.add_comm]
 have tb:∀ i,(tgtN b.toNat).testBit i=if E≤i / 8+3 then(M / 2 ^ (8*(i / 8+3 - E)) % 256).testBit (i % 8)else false:=by
  intro i
  rw[tg]
  by_cases c:E≤3
  ·rw[if_pos c,Nat.testBit_div_two_pow,if_pos (by omega),←mb _ _ (by omega)]
   congr 1; omega
  ·rw[if_neg c,Nat.testBit_mul_two_pow]
   by_cases d:E≤i / 8+3
   ·rw[if_pos d,decide_eq_true (by omega),Bool.true_and,←mb _ _ (by omega)]
    congr 1; omega
   ·rw[if_neg d,decide_eq_false (by omega),Bool.false_and]
 have mh:∀ k,3≤k→M / 2 ^ (8*k) % 256=0:=by
  intro k hk
  rw[Nat.div_eq_of_lt (Nat.lt_of_lt_of_le hM (Nat.pow_le_pow_right (by decide) (by omega)))]
 refine Ev.inv (H:=fun k i (s:UInt32 × Vector UInt8 32)=>ref04_Of_h0 k b s.1 ((E:Nat):Int) i (Vector.replicate 4 0) s.2) (n:=3)
  (fun k s=>s.1.toNat=M / 2 ^ (8*k)∧(∀ j,j < 32→(List.getD (Vector.toList s.2) j 0).toNat=if E≤j+3∧j+3 - E < k then M / 2 ^ (8*(j+3 - E)) % 256 else 0)∧∀ k',k' < k→35≤E+k'→M / 2 ^ (8*k') % 256=0) ?_ ?_ 3 0 (b % 8388608,Vector.replicate 32 0) rfl ?_
 ·rintro k ⟨m,h⟩ hk ⟨h1,h2,h3⟩ next
  simp only at h1 h2 next
  have hw:w64 (w64 (((E:Nat):Int) - 3)+(k:Int))=((E:Nat):Int) - 3+(k:Int):=by
   rw[zaj (x:=((E:Nat):Int) - (3:Int)) (by omega) (by omega),zaj (by omega) (by omega)]
  have hb:(UInt32.toUInt8 (m % 256)).toNat=M / 2 ^ (8*k) % 256:=by
   rw[UInt32.toNat_toUInt8,UInt32.toNat_mod,h1,show (256:UInt32).toNat=256 from rfl]
   omega
  have hd:(m / 256).toNat=M / 2 ^ (8*(k+1)):=by
   rw[UInt32.toNat_div,h1,show 8*(k+1)=8*k+8 by omega,Nat.pow_add,←Nat.div_div_eq_div_mul]
   rfl
  have hz:(UInt32.toUInt8 (m % 256)=0)↔M / 2 ^ (8*k) % 256=0:=by
   rw[←UInt8.toNat_inj,hb]
   rfl
  by_cases c1:35≤E+k
  ·by_cases c2:UInt32.toUInt8 (m % 256)=0
   ·refine Ev.step (fun f=>?_) (next (m / 256,h) ⟨hd,fun j hj=>?_,fun k' hk' hk2=>?_⟩)
    ·show ref04_Of_h0 (f+1) b m _ _ _ h=_
     rw[ref04_Of_h0.eq_2,zan (by omega),hw,decide_eq_true (p:=(32:Int)≤((E:Nat):Int) - 3+(k:Int)) (by omega),decide_eq_true c2,decide_eq_true (p:=(0:Int)≤((E:Nat):Int) - 3+(k:Int)) (by omega),decide_eq_false (p:=((E:Nat):Int) - 3+(k:Int) < 32) (by omega),zaj (x:=(k:Int)+1) (by omega) (by omega)]
     rfl
    ·show (List.getD (Vector.toList h) j 0).toNat=_
     rw[h2 j hj]
     by_cases d:E≤j+3∧j+3 - E < k
     ·rw[if_pos d,if_pos (by omega)]
     ·rw[if_neg d,if_neg (by omega)]
    ·by_cases e:k'=k
     ·subst e; exact hz.1 c2
     ·exact h3 k' (by omega) hk2
   ·refine Ev.done fun f=>?_
    show ref04_Of_h0 (f+1) b m _ _ _ h=_
    rw[ref04_Of_h0.eq_2,zan (by omega),hw,decide_eq_true (p:=(32:Int)≤((E:Nat):Int) - 3+(k:Int)) (by omega),decide_eq_false c2]
    refine congrArg some (zIA ?_)
    rintro ⟨g1,_⟩
    rw[tg,if_neg (by omega)]at g1
    have hne:M / 2 ^ (8*k) % 256≠0:=fun e=>c2 (hz.2 e)
    have hge:2 ^ (8*k)≤M:=by
     by_cases q:2 ^ (8*k)≤M
     ·exact q
     ·rw[Nat.div_eq_of_lt (by omega)]at hne
      exact absurd rfl hne
    have:=Nat.mul_le_mul_right (2 ^ (8*(E - 3))) hge
    rw[←Nat.pow_add]at this
    have:2 ^ 256≤2 ^ (8*k+8*(E - 3)):=Nat.pow_le_pow_right (by decide) (by omega)
    omega
  ·by_cases c3:3≤E+k
   ·refine Ev.step (fun f=>?_) (next (m / 256,Vector.setIfInBounds h (E+k - 3) (UInt32.toUInt8 (m % 256))) ⟨hd,fun j hj=>?_,fun k' hk' hk2=>by omega⟩)
    ·show ref04_Of_h0 (f+1) b m _ _ _ h=_
     rw[ref04_Of_h0.eq_2,zan (by omega),hw,decide_eq_false (p:=(32:Int)≤((E:Nat):Int) - 3+(k:Int)) (by omega),decide_eq_true (p:=(0:Int)≤((E:Nat):Int) - 3+(k:Int)) (by omega),decide_eq_true (p:=((E:Nat):Int) - 3+(k:Int) < 32) (by omega),zaj (x:=(k:Int)+1) (by omega) (by omega)]
     simp only[eqb,cond_true,cond_false]
     rw[if_pos (by omega),show Int.toNat (((E:Nat):Int) - 3+(k:Int))=E+k - 3 by omega]
    ·show (List.getD (Vector.toList (Vector.setIfInBounds h _ _)) j 0).toNat=_
     rw[zax _ _ _ _ _ (by omega)]
     by_cases e:E+k - 3=j
     ·rw[if_pos e,hb,if_pos (by omega),show j+3 - E=k by omega]
     ·rw[if_neg e,h2 j hj]
      by_cases d:E≤j+3∧j+3 - E < k
      ·rw[if_pos d,if_pos (by omega)]
      ·rw[if_neg d,if_neg (by omega)]
   ·refine Ev.step (fun f=>?_) (next (m / 256,h) ⟨hd,fun j hj=>?_,fun k' hk' hk2=>by omega⟩)
    ·show ref04_Of_h0 (f+1) b m _ _ _ h=_
     rw[ref04_Of_h0.eq_2,zan (by omega),hw,decide_eq_false (p:=(32:Int)≤((E:Nat):Int) - 3+(k:Int)) (by omega),decide_eq_false (p:=(0:Int)≤((E:Nat):Int) - 3+(k:Int)) (by omega),zaj (x:=(k:Int)+1) (by omega) (by omega)]
     rfl
    ·show (List.getD (Vector.toList h) j 0).toNat=_
     rw[h2 j hj]
     by_cases d:E≤j+3∧j+3 - E < k
     ·rw[if_pos d,if_pos (by omega)]
     ·rw[if_neg d,if_neg (by omega)]
 ·rintro ⟨m,h⟩ ⟨h1,h2,h3⟩
  simp only at h2
  refine Ev.done fun f=>?_
  show ref04_Of_h0 (f+1) b m _ _ _ h=_
  have hT:uV (zjY h)=tgtN b.toNat:=by
   rw[zGQ]
   apply Nat.eq_of_testBit_eq
   intro i
   rw[tb i]
   by_cases hi:i < 256
   ·rw[zwP,h2 _ (by omega)]
    by_cases d:E≤i / 8+3
    ·rw[if_pos d]
     by_cases d2:i / 8+3 - E < 3
     ·rw[if_pos ⟨d,d2⟩]
     ·rw[if_neg (by omega),mh _ (by omega)]
    ·rw[if_neg (by omega),if_neg d,Nat.zero_testBit]
   ·have:(numU (Vector.toList h)).testBit i=false:=Nat.testBit_lt_two_pow (Nat.lt_of_lt_of_le (by rw[zdD]; exact zIs h:numU (Vector.toList h) < 2 ^ 256) (Nat.pow_le_pow_right (by decide) (by omega)))
    rw[this]
    by_cases d:E≤i / 8+3
    ·rw[if_pos d]
     by_cases d2:i / 8+3 - E < 3
     ·rw[h3 _ d2 (by omega),Nat.zero_testBit]
     ·rw[mh _ (by omega),Nat.zero_testBit]
    ·rw[if_neg d]
  have hlt:tgtN b.toNat < 2 ^ 256:=by rw[←hT,zdD]; exact zgl _
  have hz:decide (Vector.toList (zjY h)=Vector.toList (uW 0))=decide (uV (zjY h)=0):=by
   rw[decide_eq_decide]
   exact zmM (zjY h)
  have hq:decide (zdE (zjY h)=b)=decide (zht (uV (zjY h))=b.toNat):=by rw[decide_eq_decide,zyR]
  rw[ref04_Of_h0.eq_2,zau (by omega),hs,←zIE hT hlt rfl hz hq]
  cases decide (b.toNat / 8388608 % 2=0)<;>cases decide (Vector.toList (zjY h)=Vector.toList (uW 0))<;>cases decide (zdE (zjY h)=b)<;>rfl
 ·refine ⟨by rw[Nat.mul_zero,Nat.pow_zero,Nat.div_one]; exact hm,fun j hj=>?_,fun k' hk'=>by omega⟩
  show (List.getD (Vector.toList (Vector.replicate 32 (0:UInt8))) j 0).toNat=_
  rw[zjB,if_neg (by omega)]
  rfl
end
end Go.Proofs.YtnolgfdjcipmmaaDoor.M
namespace Go.Proofs.YtnolgfdjcipmmaaDoor.M
open Go
noncomputable section
def ref04_Work (bits:UInt32):Vector UInt64 4 × Int :=
 bif !(
    decide ((ofE bits)=(0:Int))) then(((Vector.replicate 4 (0:UInt64)),(ofE bits)))
  else(bif addB (ofV bits) (uW (1:Nat)) then(((uW (1:Nat)),(0:Int)))
   else(bif decide ((Vector.toList (ovR (subV (uW (0:Nat)) (uW (1:Nat))) (addV (ofV bits) (uW (1:Nat)))))=(Vector.toList (subV (addV (ofV bits) (uW (1:Nat))) (uW (1:Nat))))) then(((addV (ovQ (subV (uW (0:Nat)) (uW (1:Nat))) (addV (ofV bits) (uW (1:Nat)))) (uW (1:Nat))),(0:Int)))
    else(((ovQ (subV (uW (0:Nat)) (uW (1:Nat))) (addV (ofV bits) (uW (1:Nat)))),(0:Int)))))
theorem ztg (b:UInt32):ref04_Work b=(zbN b,ofE b):=by
 rw[ref04_Work,zxK]
 by_cases c:okP b.toNat
 ·have e0:=(zk1 b).2 c
  have hT:=zyl c
  have hlt:tgtN b.toNat < 115792089237316195423570985008687907853269984665640564039457584007913129639936:=by rw[←zdD]; exact c.1
  have hne:=c.2.2.1
  rw[e0,decide_eq_true rfl,Bool.not_true,cond_false,if_pos c,zCJ,hT,zoJ]
  generalize tgtN b.toNat=T at *
  by_cases d:T+1 < 115792089237316195423570985008687907853269984665640564039457584007913129639936
  ·rw[decide_eq_true d,Bool.not_true,cond_false]
   have hm:uV (addV (ofV b) (uW 1))=T+1:=by rw[zDv,hT,zoJ,Nat.mod_eq_of_lt d]
   have hs:uV (subV (uW 0) (uW 1))=115792089237316195423570985008687907853269984665640564039457584007913129639936 - 1:=by
    rw[zrd,zJC,zoJ]
   have hl:uV (subV (addV (ofV b) (uW 1)) (uW 1))=T+1 - 1:=by
    rw[zrd,hm,zoJ]; omega
   have hr:uV (ovR (subV (uW 0) (uW 1)) (addV (ofV b) (uW 1)))=(115792089237316195423570985008687907853269984665640564039457584007913129639936 - 1) % (T+1):=by
    have:=Nat.mod_lt (115792089237316195423570985008687907853269984665640564039457584007913129639936 - 1) (show 0 < T+1 by omega)
    rw[zAI,zfy,hs,hm,if_neg (by omega),Nat.mod_eq_of_lt (Nat.lt_trans this d)]
   have hq:ovQ (subV (uW 0) (uW 1)) (addV (ofV b) (uW 1))=uW ((115792089237316195423570985008687907853269984665640564039457584007913129639936 - 1) / (T+1)):=by rw[zvx,hs,hm]
   have hqv:(115792089237316195423570985008687907853269984665640564039457584007913129639936 - 1) / (T+1)≤115792089237316195423570985008687907853269984665640564039457584007913129639936 - 1:=Nat.div_le_self _ _
   have two:=zHy (d:=T+1) (M:=115792089237316195423570985008687907853269984665640564039457584007913129639936) (by omega) (by decide)
   by_cases g:(115792089237316195423570985008687907853269984665640564039457584007913129639936 - 1) % (T+1)=T+1 - 1
   ·rw[zan (by rw[zGg,hr,hl]; exact g),hq,zxb,zfy,zoJ,two,if_pos g,Nat.mod_eq_of_lt (by omega)]
   ·rw[zau (by rw[zGg,hr,hl]; exact g),hq,two,if_neg g]
  ·rw[decide_eq_false d,Bool.not_false,cond_true,show T+1=115792089237316195423570985008687907853269984665640564039457584007913129639936 by omega,Nat.div_self (by decide)]
 ·have e0:ofE b≠0:=fun e=>c ((zk1 b).1 e)
  rw[decide_eq_false e0,Bool.not_false,cond_true,if_neg c]
end
end Go.Proofs.YtnolgfdjcipmmaaDoor.M
namespace Go.Proofs.YtnolgfdjcipmmaaDoor.M
open Go
noncomputable section
set_option maxRecDepth 100000
set_option maxHeartbeats 0
noncomputable def zke:Tbl:=[(80,[],zfQ)]
noncomputable def zaK:CfgW:=mkC Tryd.prog theG zke 51 0 false
def zbl:Nat→List Nat:=fun i=>bif Nat.beq i 2 then [3,4,6,7]else bif Nat.beq i 0 then [3,4,5]else []
noncomputable abbrev zbv:Code:=Tryd.f67.body.getD .skip
noncomputable abbrev zbM:List ResultVar:=Tryd.f67.results.toList
def zbj:List Nat:=[]
def zbA (r:UInt32):CallOut:=⟨.pv (.sc .u32 r),[],true,[]⟩
def zeU (n:Int) (i:Int) (h_:Vector UInt8 32):St:=⟨[(3,.p 60000 []),(4,.pv (.sc .i n)),(5,.pv (.sc .i i))],[(60000,.box (.pv (.arr .u8 32 h_)))]⟩
def ze8 (n:Int) (m:UInt32) (k_:Int) (h_:Vector UInt8 32):St:=⟨[(3,.p 60000 []),(4,.pv (.sc .i n)),(6,.pv (.sc .u32 m)),(7,.pv (.sc .i k_))],[(60000,.box (.pv (.arr .u8 32 h_)))]⟩
theorem zwk (n:Int) (i:Int) (h_:Vector UInt8 32) (Q:CallOut→Prop):zas zaK zbl [true,true,true,false,true,false] zbv (zeU n i h_) (fnK zaK zbM zbj Q) =
  (zaf (decide (i < (32:Int))) ((((0:Int)≤i)∧(i < (32:Int)))∧(zaf (!(decide ((List.getD (Vector.toList h_) (Int.toNat i) (0:UInt8))=(0:UInt8)))) (zah zaK zbl [true,true,true,false,true,false] zbv (zeU (w64 (i+(1:Int))) (w64 (i+(1:Int))) h_) (fnK zaK zbM zbj Q)) (zah zaK zbl [true,true,true,false,true,false] zbv (zeU n (w64 (i+(1:Int))) h_) (fnK zaK zbM zbj Q)))) (zaf (decide (n=(0:Int))) (Q (zbA (0:UInt32))) (zah zaK zbl [true,true,true,true,true,true,false,true,false] zbv (ze8 n (0:UInt32) (1:Int) h_) (fnK zaK zbM zbj Q)))):=by kernel_rfl
theorem zwN (n:Int) (m:UInt32) (k_:Int) (h_:Vector UInt8 32) (Q:CallOut→Prop):zas zaK zbl [true,true,true,true,true,true,false,true,false] zbv (ze8 n m k_ h_) (fnK zaK zbM zbj Q) =
  (zaf (decide (k_≤(3:Int))) (zaf (decide ((0:Int)≤(w64 (n - k_)))) ((((0:Int)≤(w64 (n - k_)))∧((w64 (n - k_)) < (32:Int)))∧(zah zaK zbl [true,true,true,true,true,true,false,true,false] zbv (ze8 n (((256:UInt32)*m)+(UInt8.toUInt32 (List.getD (Vector.toList h_) (Int.toNat (w64 (n - k_))) (0:UInt8)))) (w64 (k_+(1:Int))) h_) (fnK zaK zbM zbj Q))) (zah zaK zbl [true,true,true,true,true,true,false,true,false] zbv (ze8 n ((256:UInt32)*m) (w64 (k_+(1:Int))) h_) (fnK zaK zbM zbj Q))) (zaf (decide ((8388607:UInt32) < m)) (((256:UInt32)≠(0:UInt32))∧(Q (zbA (((16777216:UInt32)*(UInt32.ofInt (w64 (n+(1:Int)))))+(m / (256:UInt32)))))) (Q (zbA (((16777216:UInt32)*(UInt32.ofInt n))+m))))):=by kernel_rfl
theorem zi4 {r:UInt32} {Q:CallOut→Prop} (hQ:Q (zbA r)):∀ k:Nat,(∀ (n:Int) (m:UInt32) (k_:Int) (h_:Vector UInt8 32),ref04_Bits_h2 k n m k_ h_=some r→zah zaK zbl [true,true,true,true,true,true,false,true,false] zbv (ze8 n m k_ h_) (fnK zaK zbM zbj Q))
 | 0=>fun _ _ _ _ h=>zb9 h
 | k+1=>fun n m k_ h_ h=>zal (Eq.mpr (zwN n m k_ h_ Q) (have h:=(ref04_Bits_h2.eq_2 n m k_ h_ k).symm.trans h; zab h (fun h=>zab h (fun h=>zad h fun hc0 h=>(zi4 hQ k) _ _ _ _ h) (fun h=>(zi4 hQ k) _ _ _ _ h)) (fun h=>zab h (fun h=>⟨by decide +kernel,zag (Q:=Q) (e:=zbA) h hQ⟩) (fun h=>zag (Q:=Q) (e:=zbA) h hQ))))
theorem zi2 {r:UInt32} {Q:CallOut→Prop} (hQ:Q (zbA r)):∀ k:Nat,(∀ (n:Int) (i:Int) (h_:Vector UInt8 32),ref04_Bits_h0 k n i h_=some r→zah zaK zbl [true,true,true,false,true,false] zbv (zeU n i h_) (fnK zaK zbM zbj Q))
 | 0=>fun _ _ _ h=>zb9 h
 | k+1=>fun n i h_ h=>zal (Eq.mpr (zwk n i h_ Q) (have h:=(ref04_Bits_h0.eq_2 n i h_ k).symm.trans h; zab h (fun h=>zad h fun hc0 h=>zab h (fun h=>(zi2 hQ k) _ _ _ h) (fun h=>(zi2 hQ k) _ _ _ h)) (fun h=>zab h (fun h=>zag (Q:=Q) (e:=zbA) h hQ) (fun h=>(zi4 hQ _) _ _ _ _ h))))
theorem zyY (t:Vector UInt64 4) (Q:CallOut→Prop):zac zaK zbl zbM zbj zbv [.pv (.arr .u64 4 t)] [] Q =
  (zah zaK zbl [true,true,true,false,true,false] zbv (zeU (0:Int) (0:Int) (zlX (uV t))) (fnK zaK zbM zbj Q)):=by kernel_rfl
theorem zyS {k:Nat} (t:Vector UInt64 4) {r} {Q:CallOut→Prop} (h:ref04_Bits k t=some r) (hQ:Q (zbA r)):zac zaK zbl zbM zbj zbv [.pv (.arr .u64 4 t)] [] Q :=
 Eq.mpr (zyY t Q) (have h:=(ref04_Bits.eq_1 k t).symm.trans h; (zi2 hQ _) _ _ _ h)
def zhQ:Ans
 | [.pv (.arr .u64 4 t)],[]=>some (none,zbA (zdE t))
 | _,_=>none
theorem zuo:TblOK Tryd.prog theG zke:=.cons ⟨by kernel_rfl,zs5⟩ (.nil)
theorem zyk:FnOK Tryd.prog theG 67 (unW zhQ):=by
 refine FnOK.ofC (T:=zke) (nt:=51) (np:=0) (mv:=[]) (nf:=false) (hs:=zbj) (fn:=Tryd.f67) (body:=zbv) zuo (by kernel_rfl) (by kernel_rfl) (by kernel_rfl) (by kernel_rfl) (c:=zhQ) (lv:=zbl) ?_
 intro xs mem p out h hp
 unfold zhQ at h
 split at h
 ·cases h
  obtain ⟨k,hk⟩:=zrX _
  exact zyS _ hk rfl
 ·cases h
end
end Go.Proofs.YtnolgfdjcipmmaaDoor.M
namespace Go.Proofs.YtnolgfdjcipmmaaDoor.M
open Go
noncomputable section
set_option maxRecDepth 100000
set_option maxHeartbeats 0
noncomputable def zpm:Tbl:=[(66,[],zfP),(33,[],zgS),(67,[],zhQ)]
noncomputable def za9:CfgW:=mkC Tryd.prog theG zpm 64 0 false
def zb7:Nat→List Nat:=fun i=>bif Nat.beq i 0 then [0,2,4,5,6,7]else []
noncomputable abbrev zcv:Code:=Tryd.f46.body.getD .skip
noncomputable abbrev zcT:List ResultVar:=Tryd.f46.results.toList
def zb8:List Nat:=[]
def zbu (r:Vector UInt64 4 × Int):CallOut:=⟨.tup [.pv (.arr .u64 4 r.1),.pv (.sc .i r.2)],[],true,[]⟩
def zc9 (bits:UInt32) (m:UInt32) (exp:Int) (k_:Int) (t2:Vector UInt64 4) (h_:Vector UInt8 32):St:=⟨[(0,.pv (.sc .u32 bits)),(2,.p 60000 []),(4,.pv (.sc .u32 m)),(5,.pv (.sc .i exp)),(6,.p 60001 []),(7,.pv (.sc .i k_))],[(60000,.box (.pv (.arr .u64 4 t2))),(60001,.box (.pv (.arr .u8 32 h_)))]⟩
theorem zC3 (bits:UInt32) (m:UInt32) (exp:Int) (k_:Int) (t2:Vector UInt64 4) (h_:Vector UInt8 32) (Q:CallOut→Prop):zas za9 zb7 [true,true,true,true,false,true,false] zcv (zc9 bits m exp k_ t2 h_) (fnK za9 zcT zb8 Q) =
 (let s0:=(zaf (eqb (decide ((0:Int)≤(w64 ((w64 (exp - (3:Int)))+k_)))) true) (zaf (bif true then(decide ((w64 ((w64 (exp - (3:Int)))+k_)) < (32:Int)))else false) ((((0:Int)≤(w64 ((w64 (exp - (3:Int)))+k_)))∧((w64 ((w64 (exp - (3:Int)))+k_)) < (32:Int)))∧(zah za9 zb7 [true,true,true,true,false,true,false] zcv (zc9 bits (m / (256:UInt32)) exp (w64 (k_+(1:Int))) t2 (Vector.setIfInBounds h_ (Int.toNat (w64 ((w64 (exp - (3:Int)))+k_))) (UInt32.toUInt8 (m % (256:UInt32))))) (fnK za9 zcT zb8 Q))) (zah za9 zb7 [true,true,true,true,false,true,false] zcv (zc9 bits (m / (256:UInt32)) exp (w64 (k_+(1:Int))) t2 h_) (fnK za9 zcT zb8 Q))) (zah za9 zb7 [true,true,true,true,false,true,false] zcv (zc9 bits (m / (256:UInt32)) exp (w64 (k_+(1:Int))) t2 h_) (fnK za9 zcT zb8 Q)));(zaf (decide (k_ < (3:Int))) (((256:UInt32)≠(0:UInt32))∧(((256:UInt32)≠(0:UInt32))∧(zaf (eqb (decide ((32:Int)≤(w64 ((w64 (exp - (3:Int)))+k_)))) true) (zaf (bif true then(!(decide ((UInt32.toUInt8 (m % (256:UInt32)))=(0:UInt8))))else false) (Q (zbu ((Vector.replicate 4 (0:UInt64)),(5:Int))))  s0 )  s0 ))) (((8388608:UInt32)≠(0:UInt32))∧(((2:UInt32)≠(0:UInt32))∧(zaf (eqb (decide (((bits / (8388608:UInt32)) % (2:UInt32))=(1:UInt32))) false) (zaf (eqb (bif false then true else(decide ((Vector.toList (zjY h_))=(Vector.toList (uW (0:Nat)))))) false) (zaf (bif false then true else(!(decide ((zdE (zjY h_))=bits)))) (Q (zbu ((Vector.replicate 4 (0:UInt64)),(5:Int)))) (Q (zbu ((zjY h_),(0:Int))))) (Q (zbu ((Vector.replicate 4 (0:UInt64)),(5:Int))))) (Q (zbu ((Vector.replicate 4 (0:UInt64)),(5:Int))))))))):=by kernel_rfl
theorem zeA {r:Vector UInt64 4 × Int} {Q:CallOut→Prop} (hQ:Q (zbu r)):∀ k:Nat,(∀ (bits:UInt32) (m:UInt32) (exp:Int) (k_:Int) (t2:Vector UInt64 4) (h_:Vector UInt8 32),ref04_Of_h0 k bits m exp k_ t2 h_=some r→zah za9 zb7 [true,true,true,true,false,true,false] zcv (zc9 bits m exp k_ t2 h_) (fnK za9 zcT zb8 Q))
 | 0=>fun _ _ _ _ _ _ h=>zb9 h
 | k+1=>fun bits m exp k_ t2 h_ h=>zal (Eq.mpr (zC3 bits m exp k_ t2 h_ Q) (have h:=(ref04_Of_h0.eq_2 bits m exp k_ t2 h_ k).symm.trans h; zab h (fun h=>⟨by decide +kernel,⟨by decide +kernel,zab h (fun h=>zab h (fun h=>zag (Q:=Q) (e:=zbu) h hQ) (fun h=>zab h (fun h=>zab h (fun h=>zad h fun hc0 h=>(zeA hQ k) _ _ _ _ _ _ h) (fun h=>(zeA hQ k) _ _ _ _ _ _ h)) (fun h=>(zeA hQ k) _ _ _ _ _ _ h))) (fun h=>zab h (fun h=>zab h (fun h=>zad h fun hc0 h=>(zeA hQ k) _ _ _ _ _ _ h) (fun h=>(zeA hQ k) _ _ _ _ _ _ h)) (fun h=>(zeA hQ k) _ _ _ _ _ _ h))⟩⟩) (fun h=>⟨by decide +kernel,⟨by decide +kernel,zab h (fun h=>zab h (fun h=>zab h (fun h=>zag (Q:=Q) (e:=zbu) h hQ) (fun h=>zag (Q:=Q) (e:=zbu) h hQ)) (fun h=>zag (Q:=Q) (e:=zbu) h hQ)) (fun h=>zag (Q:=Q) (e:=zbu) h hQ)⟩⟩)))
theorem zFF (bits:UInt32) (Q:CallOut→Prop):zac za9 zb7 zcT zb8 zcv [.pv (.sc .u32 bits)] [] Q =
  (((8388608:UInt32)≠(0:UInt32))∧(((16777216:UInt32)≠(0:UInt32))∧(zah za9 zb7 [true,true,true,true,false,true,false] zcv (zc9 bits (bits % (8388608:UInt32)) (((UInt32.toNat (bits / (16777216:UInt32))):Nat):Int) (0:Int) (Vector.replicate 4 (0:UInt64)) (Vector.replicate 32 (0:UInt8))) (fnK za9 zcT zb8 Q)))):=by kernel_rfl
theorem zFf {k:Nat} (bits:UInt32) {r} {Q:CallOut→Prop} (h:ref04_Of k bits=some r) (hQ:Q (zbu r)):zac za9 zb7 zcT zb8 zcv [.pv (.sc .u32 bits)] [] Q :=
 Eq.mpr (zFF bits Q) (have h:=(ref04_Of.eq_1 k bits).symm.trans h; ⟨by decide +kernel,⟨by decide +kernel,(zeA hQ _) _ _ _ _ _ _ h⟩⟩)
def zlO:Ans
 | [.pv (.sc .u32 bits)],[]=>some (none,zbu ((ofV bits,ofE bits)))
 | _,_=>none
theorem zzV:TblOK Tryd.prog theG zpm:=.cons ⟨by kernel_rfl,zr8⟩ (.cons ⟨by kernel_rfl,zmt⟩ (.cons ⟨by kernel_rfl,zyk⟩ (.nil)))
theorem zBI:FnOK Tryd.prog theG 46 (unW zlO):=by
 refine FnOK.ofC (T:=zpm) (nt:=64) (np:=0) (mv:=[]) (nf:=false) (hs:=zb8) (fn:=Tryd.f46) (body:=zcv) zzV (by kernel_rfl) (by kernel_rfl) (by kernel_rfl) (by kernel_rfl) (c:=zlO) (lv:=zb7) ?_
 intro xs mem p out h hp
 unfold zlO at h
 split at h
 ·cases h
  obtain ⟨k,hk⟩:=zwF _
  exact zFf _ hk rfl
 ·cases h
end
end Go.Proofs.YtnolgfdjcipmmaaDoor.M
namespace Go.Proofs.YtnolgfdjcipmmaaDoor.M
open Go
noncomputable section
set_option maxRecDepth 100000
set_option maxHeartbeats 0
noncomputable def zj0:Tbl:=[(46,[],zlO),(33,[],zgS),(31,[],zg8),(32,[],zfq),(47,[],zhC)]
noncomputable def zqi:CfgW:=mkC Tryd.prog theG zj0 61 0 false
def zjd:Nat→List Nat:=fun i=>[]
noncomputable abbrev zkd:Code:=Tryd.f23.body.getD .skip
noncomputable abbrev zpW:List ResultVar:=Tryd.f23.results.toList
def zjO:List Nat:=[]
def zbr (r:Vector UInt64 4 × Int):CallOut:=⟨.tup [.pv (.arr .u64 4 r.1),.pv (.sc .i r.2)],[],true,[]⟩
theorem zzi (bits:UInt32) (Q:CallOut→Prop):zac zqi zjd zpW zjO zkd [.pv (.sc .u32 bits)] [] Q =
  (zaf (!(decide ((ofE bits)=(0:Int)))) (Q (zbr ((Vector.replicate 4 (0:UInt64)),(ofE bits)))) (zaf (addB (ofV bits) (uW (1:Nat))) (Q (zbr ((uW (1:Nat)),(0:Int)))) (zaf (decide ((Vector.toList (ovR (subV (uW (0:Nat)) (uW (1:Nat))) (addV (ofV bits) (uW (1:Nat)))))=(Vector.toList (subV (addV (ofV bits) (uW (1:Nat))) (uW (1:Nat)))))) (Q (zbr ((addV (ovQ (subV (uW (0:Nat)) (uW (1:Nat))) (addV (ofV bits) (uW (1:Nat)))) (uW (1:Nat))),(0:Int)))) (Q (zbr ((ovQ (subV (uW (0:Nat)) (uW (1:Nat))) (addV (ofV bits) (uW (1:Nat)))),(0:Int))))))):=by kernel_rfl
theorem zAh (bits:UInt32) {Q:CallOut→Prop} (h:Q (zbr (ref04_Work bits))):zac zqi zjd zpW zjO zkd [.pv (.sc .u32 bits)] [] Q :=
 Eq.mpr (zzi bits Q) (have h:=Eq.mp (congrArg (fun r=>Q (zbr r)) (ref04_Work.eq_1 bits)) h; zdd (Q:=fun r=>Q (zbr r)) h (fun h=>h) (fun h=>zdd (Q:=fun r=>Q (zbr r)) h (fun h=>h) (fun h=>zdd (Q:=fun r=>Q (zbr r)) h (fun h=>h) (fun h=>h))))
def zga:Ans
 | [.pv (.sc .u32 bits)],[]=>some (none,zbr ((zbN bits,ofE bits)))
 | _,_=>none
theorem zuI:TblOK Tryd.prog theG zj0:=.cons ⟨by kernel_rfl,zBI⟩ (.cons ⟨by kernel_rfl,zmt⟩ (.cons ⟨by kernel_rfl,zqy⟩ (.cons ⟨by kernel_rfl,zkq⟩ (.cons ⟨by kernel_rfl,zwp⟩ (.nil)))))
theorem zoj:FnOK Tryd.prog theG 23 (unW zga):=by
 refine FnOK.ofC (T:=zj0) (nt:=61) (np:=0) (mv:=[]) (nf:=false) (hs:=zjO) (fn:=Tryd.f23) (body:=zkd) zuI (by kernel_rfl) (by kernel_rfl) (by kernel_rfl) (by kernel_rfl) (c:=zga) (lv:=zjd) ?_
 intro xs mem p out h hp
 unfold zga at h
 split at h
 ·cases h
  exact zAh _ (congrArg zbr (ztg _))
 ·cases h
end
end Go.Proofs.YtnolgfdjcipmmaaDoor.M
