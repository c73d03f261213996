/- Part of the proofs: what functions of the program do: plain functions, and the walks that show it. No condition. -/
import Derived.KernelRfl
import Derived.Test.YtnolgfdjcipmmaaDoorProg
import Derived.Test.YtnolgfdjcipmmaaDoorLe
import Derived.Test.YtnolgfdjcipmmaaDoorFbig
import Derived.Test.YtnolgfdjcipmmaaDoorSwords
import Derived.Test.YtnolgfdjcipmmaaDoorSbigS
import Derived.Test.YtnolgfdjcipmmaaDoorSbigB
import Derived.Test.YtnolgfdjcipmmaaDoorStarS
import Derived.Test.YtnolgfdjcipmmaaDoorSshaK
set_option linter.unusedVariables false
set_option linter.unusedSimpArgs false
set_option autoImplicit false
namespace Go.Proofs.YtnolgfdjcipmmaaDoor.M
open Go
noncomputable section
def target_Bits (t:Vector UInt64 4):Option (UInt32) :=
 bif decide ((w64 (Int.tdiv (w64 ((((lenN (uV t)):Nat):Int)+(7:Int))) (8:Int)))=(0:Int)) then(some (0:UInt32))
  else(
     if((-(9223372036854775808:Int))≤(w64 ((8:Int)*(w64 ((3:Int) - (w64 (Int.tdiv (w64 ((((lenN (uV t)):Nat):Int)+(7:Int))) (8:Int))))))))∧((w64 ((8:Int)*(w64 ((3:Int) - (w64 (Int.tdiv (w64 ((((lenN (uV t)):Nat):Int)+(7:Int))) (8:Int))))))) < (9223372036854775808:Int)) then
   bif decide ((3:Int) < (w64 (Int.tdiv (w64 ((((lenN (uV t)):Nat):Int)+(7:Int))) (8:Int)))) then(if((-(9223372036854775808:Int))≤(w64 ((8:Int)*(w64 ((w64 (Int.tdiv (w64 ((((lenN (uV t)):Nat):Int)+(7:Int))) (8:Int))) - (3:Int))))))∧((w64 ((8:Int)*(w64 ((w64 (Int.tdiv (w64 ((((lenN (uV t)):Nat):Int)+(7:Int))) (8:Int))) - (3:Int))))) < (9223372036854775808:Int)) then
     bif decide ((8388607:UInt64) < (List.getD (Vector.toList (uW ((uV t) / ((2:Nat) ^ (Int.toNat (w64 ((8:Int)*(w64 ((w64 (Int.tdiv (w64 ((((lenN (uV t)):Nat):Int)+(7:Int))) (8:Int))) - (3:Int)))))))))) (0:Nat) (0:UInt64))) then(some ((zcb (UInt32.ofInt (w64 ((w64 (Int.tdiv (w64 ((((lenN (uV t)):Nat):Int)+(7:Int))) (8:Int)))+(1:Int)))) (24:Nat)) ||| (UInt64.toUInt32 (zaa (List.getD (Vector.toList (uW ((uV t) / ((2:Nat) ^ (Int.toNat (w64 ((8:Int)*(w64 ((w64 (Int.tdiv (w64 ((((lenN (uV t)):Nat):Int)+(7:Int))) (8:Int))) - (3:Int)))))))))) (0:Nat) (0:UInt64)) (8:Nat)))))
      else(some ((zcb (UInt32.ofInt (w64 (Int.tdiv (w64 ((((lenN (uV t)):Nat):Int)+(7:Int))) (8:Int)))) (24:Nat)) ||| (UInt64.toUInt32 (List.getD (Vector.toList (uW ((uV t) / ((2:Nat) ^ (Int.toNat (w64 ((8:Int)*(w64 ((w64 (Int.tdiv (w64 ((((lenN (uV t)):Nat):Int)+(7:Int))) (8:Int))) - (3:Int)))))))))) (0:Nat) (0:UInt64)))))
    else none)
    else(bif decide ((8388607:UInt64) < (List.getD (Vector.toList (uW ((uV t)*((2:Nat) ^ (Int.toNat (w64 ((8:Int)*(w64 ((3:Int) - (w64 (Int.tdiv (w64 ((((lenN (uV t)):Nat):Int)+(7:Int))) (8:Int)))))))))))) (0:Nat) (0:UInt64))) then(some ((zcb (UInt32.ofInt (w64 ((w64 (Int.tdiv (w64 ((((lenN (uV t)):Nat):Int)+(7:Int))) (8:Int)))+(1:Int)))) (24:Nat)) ||| (UInt64.toUInt32 (zaa (List.getD (Vector.toList (uW ((uV t)*((2:Nat) ^ (Int.toNat (w64 ((8:Int)*(w64 ((3:Int) - (w64 (Int.tdiv (w64 ((((lenN (uV t)):Nat):Int)+(7:Int))) (8:Int)))))))))))) (0:Nat) (0:UInt64)) (8:Nat)))))
     else(some ((zcb (UInt32.ofInt (w64 (Int.tdiv (w64 ((((lenN (uV t)):Nat):Int)+(7:Int))) (8:Int)))) (24:Nat)) ||| (UInt64.toUInt32 (List.getD (Vector.toList (uW ((uV t)*((2:Nat) ^ (Int.toNat (w64 ((8:Int)*(w64 ((3:Int) - (w64 (Int.tdiv (w64 ((((lenN (uV t)):Nat):Int)+(7:Int))) (8:Int)))))))))))) (0:Nat) (0:UInt64))))))
  else none)
theorem zkt (n:Nat) (X:UInt64) (t:Nat) (hn:n=byN t) (ht:t≠0) (h256:t < 2 ^ 256) (hX:X.toNat=preX t) (R:Vector UInt64 4) (hR:uV R=t) :
  (bif decide ((8388607:UInt64) < X) then(some ((zcb (UInt32.ofInt (w64 (((n:Nat):Int)+1))) 24) ||| (UInt64.toUInt32 (zaa X 8)))) else(some ((zcb (UInt32.ofInt ((n:Nat):Int)) 24) ||| (UInt64.toUInt32 X))))=some (zdE R):=by
 obtain ⟨p1,p2⟩:=zwg ht
 have hb:=zGh h256
 have val:∀ y:UInt32,y.toNat=zht t→some y=some (zdE R):=by
  intro y hy
  exact congrArg some (UInt32.toNat_inj.1 (hy.trans (by rw[zsV,hR])))
 by_cases c:(8388607:UInt64) < X
 ·rw[zan c,show w64 (((n:Nat):Int)+1)=((n+1:Nat):Int) by rw[zaj (by omega) (by omega)]; omega]
  rw[UInt64.lt_iff_toNat_lt,hX,show (8388607:UInt64).toNat=8388607 from rfl]at c
  have e:(UInt64.toUInt32 (zaa X 8)).toNat=preX t / 256:=by
   rw[UInt64.toNat_toUInt32,zhc _ _ (by omega),hX]
   omega
  refine val _ ?_
  rw[sh24 _ _ (by omega) (by omega),e,p2,if_pos c,hn]
 ·rw[zau c]
  rw[UInt64.lt_iff_toNat_lt,hX,show (8388607:UInt64).toNat=8388607 from rfl]at c
  have e:(UInt64.toUInt32 X).toNat=preX t:=by
   rw[UInt64.toNat_toUInt32,hX]
   omega
  refine val _ ?_
  rw[sh24 _ _ (by omega) (by omega),e,p2,if_neg c,hn]
theorem zqW (t:Vector UInt64 4):target_Bits t=some (zdE t):=by
 have h256:uV t < 2 ^ 256:=by rw[zdD]; exact zgl t
 have hL:lenN (uV t)≤256:=zc2.2 h256
 have hb:=zGh h256
 have e1:w64 (((lenN (uV t):Nat):Int)+7)=((lenN (uV t)+7:Nat):Int):=by rw[zaj (by omega) (by omega)]; omega
 have e2:w64 (Int.tdiv ((lenN (uV t)+7:Nat):Int) 8)=((byN (uV t):Nat):Int):=by
  rw[show Int.tdiv ((lenN (uV t)+7:Nat):Int) 8=(((lenN (uV t)+7) / 8:Nat):Int)from rfl,zgo (by omega)]
  rfl
 rw[target_Bits,e1,e2]
 by_cases c0:byN (uV t)=0
 ·rw[zan (by omega),zrh,zls.1 c0]
  unfold zht
  rw[if_pos rfl]
  rfl
 have ht:uV t≠0:=fun e=>c0 (zls.2 e)
 have hp:=(zwg ht).1
 rw[zau (by omega)]
 have e3:w64 ((8:Int)*w64 ((3:Int) - ((byN (uV t):Nat):Int)))=(8:Int)*(3 - ((byN (uV t):Nat):Int)):=by
  rw[zaj (x:=(3:Int) - ((byN (uV t):Nat):Int)) (by omega) (by omega),zaj (by omega) (by omega)]
 have e4:w64 ((8:Int)*w64 (((byN (uV t):Nat):Int) - 3))=(8:Int)*(((byN (uV t):Nat):Int) - 3):=by
  rw[zaj (x:=((byN (uV t):Nat):Int) - (3:Int)) (by omega) (by omega),zaj (by omega) (by omega)]
 rw[e3,e4,if_pos (by omega)]
 have w0:∀ N:Nat,N=preX (uV t)→(List.getD (Vector.toList (uW N)) 0 0).toNat=preX (uV t):=by
  intro N hN
  rw[ze9,zii _ _ (by omega),Nat.pow_zero,Nat.div_one,hN]
  omega
 by_cases c3:byN (uV t)≤3
 ·rw[zau (by omega)]
  refine zkt _ _ (uV t) rfl ht h256 (w0 _ ?_) t rfl
  unfold preX
  rw[if_pos c3,show Int.toNat ((8:Int)*(3 - ((byN (uV t):Nat):Int)))=8*(3 - byN (uV t)) by omega]
 ·rw[zan (by omega),if_pos (by omega)]
  refine zkt _ _ (uV t) rfl ht h256 (w0 _ ?_) t rfl
  unfold preX
  rw[if_neg c3,show Int.toNat ((8:Int)*(((byN (uV t):Nat):Int) - 3))=8*(byN (uV t) - 3) by omega]
end
end Go.Proofs.YtnolgfdjcipmmaaDoor.M
namespace Go.Proofs.YtnolgfdjcipmmaaDoor.M
open Go
noncomputable section
def target_Of (b:UInt32):Option (Vector UInt64 4 × Int) :=
 if(
   (-(9223372036854775808:Int))≤(w64 ((8:Int)*(w64 ((3:Int) - (((UInt32.toNat (zaP b (24:Nat))):Nat):Int))))))∧((w64 ((8:Int)*(w64 ((3:Int) - (((UInt32.toNat (zaP b (24:Nat))):Nat):Int))))) < (9223372036854775808:Int)) then
  bif decide (
        (3:Int) < (((UInt32.toNat (zaP b (24:Nat))):Nat):Int)) then(bif decide ((256:Int) < (w64 ((((lenN (uV (uW (UInt64.toNat (UInt32.toUInt64 (b &&& (8388607:UInt32))))))):Nat):Int)+(w64 ((8:Int)*(w64 ((((UInt32.toNat (zaP b (24:Nat))):Nat):Int) - (3:Int)))))))) then(some ((Vector.replicate 4 (0:UInt64)),(5:Int)))
    else(
       if((-(9223372036854775808:Int))≤(w64 ((8:Int)*(w64 ((((UInt32.toNat (zaP b (24:Nat))):Nat):Int) - (3:Int))))))∧((w64 ((8:Int)*(w64 ((((UInt32.toNat (zaP b (24:Nat))):Nat):Int) - (3:Int))))) < (9223372036854775808:Int)) then
     bif eqb (!(decide ((b &&& (8388608:UInt32))=(0:UInt32)))) false then(bif eqb (bif false then true else(decide ((Vector.toList (uW ((uV (uW (UInt64.toNat (UInt32.toUInt64 (b &&& (8388607:UInt32))))))*((2:Nat) ^ (Int.toNat (w64 ((8:Int)*(w64 ((((UInt32.toNat (zaP b (24:Nat))):Nat):Int) - (3:Int))))))))))=(Vector.toList (Vector.replicate 4 (0:UInt64)))))) false then(bif bif false then true else(!(decide ((zdE (uW ((uV (uW (UInt64.toNat (UInt32.toUInt64 (b &&& (8388607:UInt32))))))*((2:Nat) ^ (Int.toNat (w64 ((8:Int)*(w64 ((((UInt32.toNat (zaP b (24:Nat))):Nat):Int) - (3:Int))))))))))=b))) then(some ((Vector.replicate 4 (0:UInt64)),(5:Int)))
        else(some ((uW ((uV (uW (UInt64.toNat (UInt32.toUInt64 (b &&& (8388607:UInt32))))))*((2:Nat) ^ (Int.toNat (w64 ((8:Int)*(w64 ((((UInt32.toNat (zaP b (24:Nat))):Nat):Int) - (3:Int))))))))),(0:Int))))
       else(some ((Vector.replicate 4 (0:UInt64)),(5:Int))))
      else(some ((Vector.replicate 4 (0:UInt64)),(5:Int)))
    else none))
   else(
      bif eqb (!(decide ((b &&& (8388608:UInt32))=(0:UInt32)))) false then(bif eqb (bif false then true else(decide ((Vector.toList (uW ((uV (uW (UInt64.toNat (UInt32.toUInt64 (b &&& (8388607:UInt32)))))) / ((2:Nat) ^ (Int.toNat (w64 ((8:Int)*(w64 ((3:Int) - (((UInt32.toNat (zaP b (24:Nat))):Nat):Int))))))))))=(Vector.toList (Vector.replicate 4 (0:UInt64)))))) false then(bif bif false then true else(!(decide ((zdE (uW ((uV (uW (UInt64.toNat (UInt32.toUInt64 (b &&& (8388607:UInt32)))))) / ((2:Nat) ^ (Int.toNat (w64 ((8:Int)*(w64 ((3:Int) - (((UInt32.toNat (zaP b (24:Nat))):Nat):Int))))))))))=b))) then(some ((Vector.replicate 4 (0:UInt64)),(5:Int)))
      else(some ((uW ((uV (uW (UInt64.toNat (UInt32.toUInt64 (b &&& (8388607:UInt32)))))) / ((2:Nat) ^ (Int.toNat (w64 ((8:Int)*(w64 ((3:Int) - (((UInt32.toNat (zaP b (24:Nat))):Nat):Int))))))))),(0:Int))))
     else(some ((Vector.replicate 4 (0:UInt64)),(5:Int))))
    else(some ((Vector.replicate 4 (0:UInt64)),(5:Int))))
 else none
theorem zI0 (n i:Nat):n &&& 2 ^ i=if n.testBit i=true then 2 ^ i else 0:=by
 apply Nat.eq_of_testBit_eq
 intro j
 rw[Nat.testBit_and,Nat.testBit_two_pow]
 by_cases h:i=j
 ·subst h
  cases hb:n.testBit i<;>simp
 ·rw[decide_eq_false h,Bool.and_false]
  split
  ·rw[Nat.testBit_two_pow,decide_eq_false h]
  ·rw[Nat.zero_testBit]
theorem zul (b:UInt32):target_Of b=some (ofV b,ofE b):=by
 have hbl:=b.toNat_lt
 have he:(zaP b 24).toNat=b.toNat / 16777216:=by
  unfold zaP
  rw[UInt32.toNat_ofNat',Nat.min_eq_left (by decide)]
  omega
 have hm:(UInt64.toNat (UInt32.toUInt64 (b &&& 8388607)))=b.toNat % 8388608:=by
  rw[UInt32.toNat_toUInt64,UInt32.toNat_and,show (8388607:UInt32).toNat=2 ^ 23 - 1 from rfl,Nat.and_two_pow_sub_one_eq_mod]
 have hs:decide ((b &&& 8388608)=0)=decide (b.toNat / 8388608 % 2=0):=by
  rw[decide_eq_decide,←UInt32.toNat_inj,UInt32.toNat_and,show (8388608:UInt32).toNat=2 ^ 23 from rfl,zI0,Nat.testBit_eq_decide_div_mod_eq,show (0:UInt32).toNat=0 from rfl,show 2 ^ 23=8388608 from rfl]
  by_cases c:b.toNat / 8388608 % 2=1
  ·rw[decide_eq_true c,if_pos rfl]; omega
  ·rw[decide_eq_false c,if_neg (by decide)]; omega
 have hmv:uV (uW (b.toNat % 8388608))=b.toNat % 8388608:=by rw[zfy,Nat.mod_eq_of_lt (by omega)]
 have fin:∀ T:Vector UInt64 4,uV T=tgtN b.toNat→tgtN b.toNat < 2 ^ 256→(bif eqb (!(decide ((b &&& (8388608:UInt32))=(0:UInt32)))) false then(bif eqb (bif false then true else(decide ((Vector.toList T)=(Vector.toList (Vector.replicate 4 (0:UInt64)))))) false then(bif bif false then true else(!(decide ((zdE T)=b))) then(some ((Vector.replicate 4 (0:UInt64)),(5:Int)))
        else(some (T,(0:Int))))
       else(some ((Vector.replicate 4 (0:UInt64)),(5:Int))))
      else(some ((Vector.replicate 4 (0:UInt64)),(5:Int))))=some (ofV b,ofE b):=by
  intro T hT hlt
  have hz:decide (Vector.toList T=Vector.toList (Vector.replicate 4 (0:UInt64)))=decide (uV T=0):=by rw[decide_eq_decide,zmM]
  have hq:decide (zdE T=b)=decide (zht (uV T)=b.toNat):=by rw[decide_eq_decide,zyR]
  rw[←zIE hT hlt hs hz hq]
  cases decide ((b &&& 8388608)=0)<;>cases decide (Vector.toList T=Vector.toList (Vector.replicate 4 (0:UInt64)))<;>cases decide (zdE T=b)<;>rfl
 generalize eE:b.toNat / 16777216=E at *
 generalize eM:b.toNat % 8388608=M at *
 have hE:E < 256:=by omega
 have hM:M < 2 ^ 23:=by omega
 have e3:w64 ((8:Int)*w64 ((3:Int) - ((E:Nat):Int)))=(8:Int)*(3 - ((E:Nat):Int)):=by
  rw[zaj (x:=(3:Int) - ((E:Nat):Int)) (by omega) (by omega),zaj (by omega) (by omega)]
 have e4:w64 ((8:Int)*w64 (((E:Nat):Int) - 3))=(8:Int)*(((E:Nat):Int) - 3):=by
  rw[zaj (x:=((E:Nat):Int) - (3:Int)) (by omega) (by omega),zaj (by omega) (by omega)]
 have tg:tgtN b.toNat=if E≤3 then M / 2 ^ (8*(3 - E))else M*2 ^ (8*(E - 3)):=by unfold tgtN; rw[eE,eM]
 have hl:lenN M≤23:=zc2.2 hM
 rw[target_Of,he,hm,hmv,e3,e4,if_pos (by omega)]
 by_cases c:E≤3
 ·rw[zau (by omega),show Int.toNat ((8:Int)*(3 - ((E:Nat):Int)))=8*(3 - E) by omega]
  rw[if_pos c]at tg
  have hlt:M / 2 ^ (8*(3 - E)) < 2 ^ 256:=Nat.lt_of_le_of_lt (Nat.div_le_self _ _) (Nat.lt_of_lt_of_le hM (Nat.pow_le_pow_right (by decide) (by decide)))
  exact fin _ (by rw[zfy,←zdD,Nat.mod_eq_of_lt hlt,tg]) (by rw[tg]; exact hlt)
 ·rw[zan (by omega),show Int.toNat ((8:Int)*(((E:Nat):Int) - 3))=8*(E - 3) by omega,zaj (by omega) (by omega)]
  rw[if_neg c]at tg
  by_cases d:lenN M+8*(E - 3)≤256
  ·rw[zau (by omega),if_pos (by omega)]
   have hlt:M*2 ^ (8*(E - 3)) < 2 ^ 256:=by
    refine Nat.lt_of_lt_of_le (Nat.mul_lt_mul_of_pos_right (zc2.1 (Nat.le_refl (lenN M))) (Nat.two_pow_pos _)) ?_
    rw[←Nat.pow_add]
    exact Nat.pow_le_pow_right (by decide) d
   exact fin _ (by rw[zfy,←zdD,Nat.mod_eq_of_lt hlt,tg]) (by rw[tg]; exact hlt)
  ·rw[zan (by omega)]
   refine congrArg some (zIA ?_)
   rintro ⟨g1,g2,g3,g4⟩
   rw[tg]at g1 g3
   have hM0:M≠0:=by
    intro e
    rw[e,Nat.zero_mul]at g3
    exact g3 rfl
   obtain ⟨h0,h1,h2⟩:=zoB hM0
   have:=Nat.mul_le_mul_right (2 ^ (8*(E - 3))) h1
   rw[←Nat.pow_add]at this
   have:2 ^ 256≤2 ^ (lenN M - 1+8*(E - 3)):=Nat.pow_le_pow_right (by decide) (by omega)
   omega
end
end Go.Proofs.YtnolgfdjcipmmaaDoor.M
namespace Go.Proofs.YtnolgfdjcipmmaaDoor.M
open Go
noncomputable section
def target_Work (b:UInt32):Vector UInt64 4 × Int :=
 bif !(decide ((ofE b)=(0:Int))) then(((Vector.replicate 4 (0:UInt64)),(ofE b)))
  else(bif addB (ofV b) (uW (1:Nat)) then(((uW (1:Nat)),(0:Int)))
   else(((addV (ovQ (subV (Vector.replicate 4 (0:UInt64)) (addV (ofV b) (uW (1:Nat)))) (addV (ofV b) (uW (1:Nat)))) (uW (1:Nat))),(0:Int))))
theorem zq6 (b:UInt32):target_Work b=(zbN b,ofE b):=by
 rw[target_Work,zxK]
 by_cases c:okP b.toNat
 ·have e0:=(zk1 b).2 c
  have hT:=zyl c
  have hlt:tgtN b.toNat < 115792089237316195423570985008687907853269984665640564039457584007913129639936:=by rw[←zdD]; exact c.1
  have hne:=c.2.2.1
  rw[e0,decide_eq_true rfl,Bool.not_true,cond_false,if_pos c,zCJ,hT,zoJ]
  generalize tgtN b.toNat=T at *
  by_cases d:T+1 < 115792089237316195423570985008687907853269984665640564039457584007913129639936
  ·rw[decide_eq_true d,Bool.not_true,cond_false]
   refine Prod.ext ?_ rfl
   show addV _ _=_
   have hm:uV (addV (ofV b) (uW 1))=T+1:=by rw[zDv,hT,zoJ,Nat.mod_eq_of_lt d]
   rw[zxb,zvx,zfy,hm,zrd,hm,zr3,zoJ]
   rw[zH8 (d:=T+1) (by omega) (Nat.le_of_lt d)]
   have e1:(0+115792089237316195423570985008687907853269984665640564039457584007913129639936 - (T+1)) % 115792089237316195423570985008687907853269984665640564039457584007913129639936=115792089237316195423570985008687907853269984665640564039457584007913129639936 - (T+1):=by omega
   rw[e1]
   have e2:(115792089237316195423570985008687907853269984665640564039457584007913129639936 - (T+1)) / (T+1)≤115792089237316195423570985008687907853269984665640564039457584007913129639936 - (T+1):=Nat.div_le_self _ _
   rw[Nat.mod_eq_of_lt (a:=(115792089237316195423570985008687907853269984665640564039457584007913129639936 - (T+1)) / (T+1)) (by omega)]
  ·rw[decide_eq_false d,Bool.not_false,cond_true,show T+1=115792089237316195423570985008687907853269984665640564039457584007913129639936 by omega,Nat.div_self (by decide)]
 ·have e0:ofE b≠0:=fun e=>c ((zk1 b).1 e)
  rw[decide_eq_false e0,Bool.not_false,cond_true,if_neg c]
end
end Go.Proofs.YtnolgfdjcipmmaaDoor.M
namespace Go.Proofs.YtnolgfdjcipmmaaDoor.M
open Go
noncomputable section
def target_product (a:Vector UInt64 4) (n:UInt64) (by_2:UInt64):Vector UInt64 4 × Bool :=
 ((Vector.setIfInBounds (Vector.setIfInBounds (Vector.setIfInBounds (Vector.setIfInBounds (Vector.replicate 4 (0:UInt64)) (0:Nat) (List.getD (Vector.toList (uW ((uV (Vector.setIfInBounds (Vector.setIfInBounds (Vector.setIfInBounds (Vector.replicate 4 (0:UInt64)) (0:Nat) (List.getD (Vector.toList (uW ((uV a)*(UInt64.toNat n)))) (0:Nat) (0:UInt64))) (1:Nat) (List.getD (Vector.toList (uW ((uV a)*(UInt64.toNat n)))) (1:Nat) (0:UInt64))) (2:Nat) (divR (Vector.setIfInBounds (Vector.setIfInBounds (Vector.setIfInBounds (Vector.replicate 4 (0:UInt64)) (0:Nat) (List.getD (Vector.toList (uW ((uV a)*(UInt64.toNat n)))) (2:Nat) (0:UInt64))) (1:Nat) (List.getD (Vector.toList (uW ((uV a)*(UInt64.toNat n)))) (3:Nat) (0:UInt64))) (2:Nat) (mulC a n)) by_2))) / (UInt64.toNat by_2)))) (0:Nat) (0:UInt64))) (1:Nat) (List.getD (Vector.toList (uW ((uV (Vector.setIfInBounds (Vector.setIfInBounds (Vector.setIfInBounds (Vector.replicate 4 (0:UInt64)) (0:Nat) (List.getD (Vector.toList (uW ((uV a)*(UInt64.toNat n)))) (0:Nat) (0:UInt64))) (1:Nat) (List.getD (Vector.toList (uW ((uV a)*(UInt64.toNat n)))) (1:Nat) (0:UInt64))) (2:Nat) (divR (Vector.setIfInBounds (Vector.setIfInBounds (Vector.setIfInBounds (Vector.replicate 4 (0:UInt64)) (0:Nat) (List.getD (Vector.toList (uW ((uV a)*(UInt64.toNat n)))) (2:Nat) (0:UInt64))) (1:Nat) (List.getD (Vector.toList (uW ((uV a)*(UInt64.toNat n)))) (3:Nat) (0:UInt64))) (2:Nat) (mulC a n)) by_2))) / (UInt64.toNat by_2)))) (1:Nat) (0:UInt64))) (2:Nat) (List.getD (Vector.toList (uW ((uV (Vector.setIfInBounds (Vector.setIfInBounds (Vector.setIfInBounds (Vector.replicate 4 (0:UInt64)) (0:Nat) (List.getD (Vector.toList (uW ((uV a)*(UInt64.toNat n)))) (2:Nat) (0:UInt64))) (1:Nat) (List.getD (Vector.toList (uW ((uV a)*(UInt64.toNat n)))) (3:Nat) (0:UInt64))) (2:Nat) (mulC a n))) / (UInt64.toNat by_2)))) (0:Nat) (0:UInt64))) (3:Nat) (List.getD (Vector.toList (uW ((uV (Vector.setIfInBounds (Vector.setIfInBounds (Vector.setIfInBounds (Vector.replicate 4 (0:UInt64)) (0:Nat) (List.getD (Vector.toList (uW ((uV a)*(UInt64.toNat n)))) (2:Nat) (0:UInt64))) (1:Nat) (List.getD (Vector.toList (uW ((uV a)*(UInt64.toNat n)))) (3:Nat) (0:UInt64))) (2:Nat) (mulC a n))) / (UInt64.toNat by_2)))) (1:Nat) (0:UInt64))),(!(decide ((List.getD (Vector.toList (uW ((uV (Vector.setIfInBounds (Vector.setIfInBounds (Vector.setIfInBounds (Vector.replicate 4 (0:UInt64)) (0:Nat) (List.getD (Vector.toList (uW ((uV a)*(UInt64.toNat n)))) (2:Nat) (0:UInt64))) (1:Nat) (List.getD (Vector.toList (uW ((uV a)*(UInt64.toNat n)))) (3:Nat) (0:UInt64))) (2:Nat) (mulC a n))) / (UInt64.toNat by_2)))) (2:Nat) (0:UInt64))=(0:UInt64)))))
theorem zDA (x0 x1 x2:UInt64):uV (Vector.setIfInBounds (Vector.setIfInBounds (Vector.setIfInBounds (Vector.replicate 4 0) 0 x0) 1 x1) 2 x2)=x0.toNat+18446744073709551616*(x1.toNat+18446744073709551616*x2.toNat):=by
 unfold uV
 simp[znR,zn1]
theorem zJg (x0 x1 x2 x3:UInt64):uV (Vector.setIfInBounds (Vector.setIfInBounds (Vector.setIfInBounds (Vector.setIfInBounds (Vector.replicate 4 0) 0 x0) 1 x1) 2 x2) 3 x3)=x0.toNat+18446744073709551616*(x1.toNat+18446744073709551616*(x2.toNat+18446744073709551616*x3.toNat)):=by
 unfold uV
 simp[znR,zn1]
theorem zJu {Y B:Nat} (hY:0 < Y) (A c:Nat):(A*B+c) / Y=A / Y*B+(A % Y*B+c) / Y:=by
 have h:=Nat.div_add_mod A Y
 have e:A*B+c=Y*(A / Y*B)+(A % Y*B+c):=by
  have:A*B=(Y*(A / Y)+A % Y)*B:=by rw[h]
  rw[this]
  grind
 rw[e,Nat.mul_add_div hY]
theorem zmP (a:Vector UInt64 4) (n m:UInt64):target_product a n m=(znH a n m,zFv a n m):=by
 rw[target_product,zDl,zDS]
 have hA:=zgl a
 have hn:=n.toNat_lt
 have hP:uV a*n.toNat < 115792089237316195423570985008687907853269984665640564039457584007913129639936*18446744073709551616:=Nat.mul_lt_mul'' hA hn
 have hmul:(mulC a n).toNat=uV a*n.toNat / 115792089237316195423570985008687907853269984665640564039457584007913129639936:=by
  rw[zF4,UInt64.toNat_ofNat']
  omega
 generalize mulC a n=mc at *
 generalize uV a*n.toNat=P at *
 have w:∀ N j,j < 4→(List.getD (Vector.toList (uW N)) j 0).toNat=N / 18446744073709551616 ^ j % 18446744073709551616:=fun N j hj=>zii N j hj
 have hhi:uV (Vector.setIfInBounds (Vector.setIfInBounds (Vector.setIfInBounds (Vector.replicate 4 (0:UInt64)) 0 (List.getD (Vector.toList (uW P)) 2 0)) 1 (List.getD (Vector.toList (uW P)) 3 0)) 2 mc)=P / 340282366920938463463374607431768211456:=by
  rw[zDA,w _ _ (by omega),w _ _ (by omega),hmul,show 18446744073709551616 ^ 2=340282366920938463463374607431768211456 from rfl,show 18446744073709551616 ^ 3=6277101735386680763835789423207666416102355444464034512896 from rfl]
  omega
 have hld:∀ x:UInt64,uV (Vector.setIfInBounds (Vector.setIfInBounds (Vector.setIfInBounds (Vector.replicate 4 (0:UInt64)) 0 (List.getD (Vector.toList (uW P)) 0 0)) 1 (List.getD (Vector.toList (uW P)) 1 0)) 2 x)=x.toNat*340282366920938463463374607431768211456+P % 340282366920938463463374607431768211456:=by
  intro x
  rw[zDA,w _ _ (by omega),w _ _ (by omega),Nat.pow_zero,Nat.pow_one]
  omega
 generalize eV:Vector.setIfInBounds (Vector.setIfInBounds (Vector.setIfInBounds (Vector.replicate 4 (0:UInt64)) 0 (List.getD (Vector.toList (uW P)) 2 0)) 1 (List.getD (Vector.toList (uW P)) 3 0)) 2 mc=V at *
 rw[hld,hhi]
 generalize eq:P / 340282366920938463463374607431768211456 / m.toNat=q
 have hq:q < 6277101735386680763835789423207666416102355444464034512896:=by
  rw[←eq]
  exact Nat.lt_of_le_of_lt (Nat.div_le_self _ _) (by omega)
 generalize er:((divR V m).toNat*340282366920938463463374607431768211456+P % 340282366920938463463374607431768211456) / m.toNat=r
 have main:P / m.toNat=q*340282366920938463463374607431768211456+r∧r < 340282366920938463463374607431768211456:=by
  by_cases c:m.toNat=0
  ·rw[c,Nat.div_zero]at eq er
   rw[←eq,←er,c,Nat.div_zero]
   decide
  ·have hm:0 < m.toNat:=by omega
   have hml:=m.toNat_lt
   have hl:=Nat.mod_lt (P / 340282366920938463463374607431768211456) hm
   have hd:(divR V m).toNat=P / 340282366920938463463374607431768211456 % m.toNat:=by
    rw[zCN,if_neg c,UInt64.toNat_ofNat',hhi,Nat.mod_eq_of_lt (by omega)]
   rw[hd]at er
   constructor
   ·have:=zJu (B:=340282366920938463463374607431768211456) hm (P / 340282366920938463463374607431768211456) (P % 340282366920938463463374607431768211456)
    rw[Nat.div_add_mod',eq,er]at this
    exact this
   ·rw[←er,Nat.div_lt_iff_lt_mul hm]
    have:(P / 340282366920938463463374607431768211456 % m.toNat+1)*340282366920938463463374607431768211456≤m.toNat*340282366920938463463374607431768211456:=Nat.mul_le_mul_right _ hl
    rw[Nat.mul_comm _ m.toNat]
    omega
 obtain ⟨m1,m2⟩:=main
 rw[m1]
 refine Prod.ext ?_ ?_
 ·apply zpT
  show uV (Vector.setIfInBounds _ _ _)=_
  rw[zJg,w _ _ (by omega),w _ _ (by omega),w _ _ (by omega),w _ _ (by omega),zfy,Nat.pow_zero,Nat.pow_one]
  omega
 ·show (!decide (List.getD (Vector.toList (uW q)) 2 0=0))=!decide _
  congr 1
  rw[decide_eq_decide,←UInt64.toNat_inj,w _ _ (by omega),show 18446744073709551616 ^ 2=340282366920938463463374607431768211456 from rfl,show (0:UInt64).toNat=0 from rfl]
  omega
end
end Go.Proofs.YtnolgfdjcipmmaaDoor.M
namespace Go.Proofs.YtnolgfdjcipmmaaDoor.M
open Go
noncomputable section
def target_Next (b:UInt32) (span:UInt32):UInt32 × Int :=
 bif !(
    decide ((ofE b)=(0:Int))) then(((0:UInt32),(ofE b)))
  else(
     bif eqb (zFv (ofV b) (bif true then(if((1920:UInt64) < (bif false then(if((120:UInt64) < (UInt32.toUInt64 span)) then(120:UInt64) else(UInt32.toUInt64 span)) else(if((UInt32.toUInt64 span) < (120:UInt64)) then(120:UInt64) else(UInt32.toUInt64 span)))) then(1920:UInt64) else(bif false then(if((120:UInt64) < (UInt32.toUInt64 span)) then(120:UInt64) else(UInt32.toUInt64 span)) else(if((UInt32.toUInt64 span) < (120:UInt64)) then(120:UInt64) else(UInt32.toUInt64 span)))) else(if((bif false then(if((120:UInt64) < (UInt32.toUInt64 span)) then(120:UInt64) else(UInt32.toUInt64 span)) else(if((UInt32.toUInt64 span) < (120:UInt64)) then(120:UInt64) else(UInt32.toUInt64 span))) < (1920:UInt64)) then(1920:UInt64) else(bif false then(if((120:UInt64) < (UInt32.toUInt64 span)) then(120:UInt64) else(UInt32.toUInt64 span)) else(if((UInt32.toUInt64 span) < (120:UInt64)) then(120:UInt64) else(UInt32.toUInt64 span))))) (480:UInt64)) false then(bif bif false then true else(subB (ofV (545259519:UInt32)) (znH (ofV b) (bif true then(if((1920:UInt64) < (bif false then(if((120:UInt64) < (UInt32.toUInt64 span)) then(120:UInt64) else(UInt32.toUInt64 span)) else(if((UInt32.toUInt64 span) < (120:UInt64)) then(120:UInt64) else(UInt32.toUInt64 span)))) then(1920:UInt64) else(bif false then(if((120:UInt64) < (UInt32.toUInt64 span)) then(120:UInt64) else(UInt32.toUInt64 span)) else(if((UInt32.toUInt64 span) < (120:UInt64)) then(120:UInt64) else(UInt32.toUInt64 span)))) else(if((bif false then(if((120:UInt64) < (UInt32.toUInt64 span)) then(120:UInt64) else(UInt32.toUInt64 span)) else(if((UInt32.toUInt64 span) < (120:UInt64)) then(120:UInt64) else(UInt32.toUInt64 span))) < (1920:UInt64)) then(1920:UInt64) else(bif false then(if((120:UInt64) < (UInt32.toUInt64 span)) then(120:UInt64) else(UInt32.toUInt64 span)) else(if((UInt32.toUInt64 span) < (120:UInt64)) then(120:UInt64) else(UInt32.toUInt64 span))))) (480:UInt64))) then(((zdE (ofV (545259519:UInt32))),(0:Int)))
    else(bif decide ((Vector.toList (znH (ofV b) (bif true then(if((1920:UInt64) < (bif false then(if((120:UInt64) < (UInt32.toUInt64 span)) then(120:UInt64) else(UInt32.toUInt64 span)) else(if((UInt32.toUInt64 span) < (120:UInt64)) then(120:UInt64) else(UInt32.toUInt64 span)))) then(1920:UInt64) else(bif false then(if((120:UInt64) < (UInt32.toUInt64 span)) then(120:UInt64) else(UInt32.toUInt64 span)) else(if((UInt32.toUInt64 span) < (120:UInt64)) then(120:UInt64) else(UInt32.toUInt64 span)))) else(if((bif false then(if((120:UInt64) < (UInt32.toUInt64 span)) then(120:UInt64) else(UInt32.toUInt64 span)) else(if((UInt32.toUInt64 span) < (120:UInt64)) then(120:UInt64) else(UInt32.toUInt64 span))) < (1920:UInt64)) then(1920:UInt64) else(bif false then(if((120:UInt64) < (UInt32.toUInt64 span)) then(120:UInt64) else(UInt32.toUInt64 span)) else(if((UInt32.toUInt64 span) < (120:UInt64)) then(120:UInt64) else(UInt32.toUInt64 span))))) (480:UInt64)))=(Vector.toList (Vector.replicate 4 (0:UInt64)))) then(((zdE (uW (1:Nat))),(0:Int)))
     else(((zdE (znH (ofV b) (bif true then(if((1920:UInt64) < (bif false then(if((120:UInt64) < (UInt32.toUInt64 span)) then(120:UInt64) else(UInt32.toUInt64 span)) else(if((UInt32.toUInt64 span) < (120:UInt64)) then(120:UInt64) else(UInt32.toUInt64 span)))) then(1920:UInt64) else(bif false then(if((120:UInt64) < (UInt32.toUInt64 span)) then(120:UInt64) else(UInt32.toUInt64 span)) else(if((UInt32.toUInt64 span) < (120:UInt64)) then(120:UInt64) else(UInt32.toUInt64 span)))) else(if((bif false then(if((120:UInt64) < (UInt32.toUInt64 span)) then(120:UInt64) else(UInt32.toUInt64 span)) else(if((UInt32.toUInt64 span) < (120:UInt64)) then(120:UInt64) else(UInt32.toUInt64 span))) < (1920:UInt64)) then(1920:UInt64) else(bif false then(if((120:UInt64) < (UInt32.toUInt64 span)) then(120:UInt64) else(UInt32.toUInt64 span)) else(if((UInt32.toUInt64 span) < (120:UInt64)) then(120:UInt64) else(UInt32.toUInt64 span))))) (480:UInt64))),(0:Int)))))
   else(((zdE (ofV (545259519:UInt32))),(0:Int))))
theorem zoQ (span:UInt32):(if(1920:UInt64) < (if UInt32.toUInt64 span < 120 then 120 else UInt32.toUInt64 span) then(1920:UInt64) else(if UInt32.toUInt64 span < 120 then 120 else UInt32.toUInt64 span)).toNat=zjV span.toNat:=by
 have hs:(UInt32.toUInt64 span).toNat=span.toNat:=UInt32.toNat_toUInt64 span
 unfold zjV
 by_cases c1:UInt32.toUInt64 span < 120
 ·rw[if_pos c1,if_neg (by decide)]
  rw[UInt64.lt_iff_toNat_lt,hs,show (120:UInt64).toNat=120 from rfl]at c1
  rw[if_pos c1]; rfl
 ·rw[if_neg c1]
  rw[UInt64.lt_iff_toNat_lt,hs,show (120:UInt64).toNat=120 from rfl]at c1
  rw[if_neg c1]
  by_cases c2:1920 < UInt32.toUInt64 span
  ·rw[if_pos c2]
   rw[UInt64.lt_iff_toNat_lt,hs,show (1920:UInt64).toNat=1920 from rfl]at c2
   rw[if_pos c2]; rfl
  ·rw[if_neg c2]
   rw[UInt64.lt_iff_toNat_lt,hs,show (1920:UInt64).toNat=1920 from rfl]at c2
   rw[if_neg c2,hs]
theorem ztD (b span:UInt32) (h:okP b.toNat) (m:UInt64) (hm:m.toNat=zjV span.toNat) :
  (bif eqb (zFv (ofV b) m 480) false then(bif subB (ofV 545259519) (znH (ofV b) m 480) then(zdE (ofV 545259519),(0:Int))
   else(bif decide (Vector.toList (znH (ofV b) m 480)=Vector.toList (Vector.replicate 4 (0:UInt64))) then(zdE (uW 1),0) else(zdE (znH (ofV b) m 480),0)))
   else(zdE (ofV 545259519),0))=(zFg b span,ofE b):=by
 have hT:=zyl h
 have hlim:limT < 115792089237316195423570985008687907853269984665640564039457584007913129639936:=by decide
 have fin1:limT < tgtN b.toNat*zjV span.toNat / 480→(zdE (ofV 545259519),(0:Int))=(zFg b span,ofE b):=by
  intro g
  refine zyp h ?_
  rw[zGy]
  unfold zEX
  rw[if_pos g]
 rw[zDS,hT,hm,show (480:UInt64).toNat=480 from rfl]
 by_cases c1:tgtN b.toNat*zjV span.toNat / 480 < 115792089237316195423570985008687907853269984665640564039457584007913129639936
 ·have vP:uV (znH (ofV b) m 480)=tgtN b.toNat*zjV span.toNat / 480:=by
   rw[zDl,hT,hm,show (480:UInt64).toNat=480 from rfl,zfy,Nat.mod_eq_of_lt c1]
  rw[decide_eq_true c1,zgr,zGy,vP]
  simp only[eqb,Bool.not_true,Bool.not_false,cond_true]
  by_cases c3:limT < tgtN b.toNat*zjV span.toNat / 480
  ·rw[zan c3]
   exact fin1 c3
  ·rw[zau c3]
   have hz:decide (Vector.toList (znH (ofV b) m 480)=Vector.toList (Vector.replicate 4 (0:UInt64)))=decide (tgtN b.toNat*zjV span.toNat / 480=0):=by
    rw[decide_eq_decide,zmM,vP]
   rw[hz]
   by_cases c4:tgtN b.toNat*zjV span.toNat / 480=0
   ·rw[zan c4]
    refine zyp h ?_
    rw[zoJ]
    unfold zEX
    rw[if_neg c3,if_pos c4]
   ·rw[zau c4]
    refine zyp h ?_
    rw[vP]
    unfold zEX
    rw[if_neg c3,if_neg c4]
 ·rw[decide_eq_false c1]
  exact fin1 (by omega)
theorem zq0 (b span:UInt32):target_Next b span=(zFg b span,ofE b):=by
 rw[target_Next]
 by_cases h:okP b.toNat
 ·have e0:=(zk1 b).2 h
  rw[decide_eq_true e0]
  simp only[Bool.not_true,cond_false,cond_true]
  exact ztD b span h _ (zoQ span)
 ·have e0:ofE b≠0:=fun e=>h ((zk1 b).1 e)
  rw[decide_eq_false e0,Bool.not_false,cond_true,zDu,if_neg h]
end
end Go.Proofs.YtnolgfdjcipmmaaDoor.M
namespace Go.Proofs.YtnolgfdjcipmmaaDoor.M
open Go
noncomputable section
set_option maxRecDepth 100000
set_option maxHeartbeats 0
noncomputable def ziL:Tbl:=[(63,[],ziv),(64,[],zgR),(62,[],zhm)]
noncomputable def zn4:CfgW:=mkC Tryd.prog theG ziL 37 0 false
def zid:Nat→List Nat:=fun i=>[]
noncomputable abbrev zjS:Code:=Tryd.f57.body.getD .skip
noncomputable abbrev zoM:List ResultVar:=Tryd.f57.results.toList
def zhZ:List Nat:=[]
def za6 (r:UInt32):CallOut:=⟨.pv (.sc .u32 r),[],true,[]⟩
theorem zwQ (t:Vector UInt64 4) (Q:CallOut→Prop):zac zn4 zid zoM zhZ zjS [.pv (.arr .u64 4 t)] [] Q =
 (let s0:=(w64 (Int.tdiv (w64 ((((lenN (uV t)):Nat):Int)+(7:Int))) (8:Int)));let s1:=(List.getD (Vector.toList (uW ((uV t) / ((2:Nat) ^ (Int.toNat (w64 ((8:Int)*(w64 ( s0  - (3:Int)))))))))) (0:Nat) (0:UInt64));let s2:=(List.getD (Vector.toList (uW ((uV t)*((2:Nat) ^ (Int.toNat (w64 ((8:Int)*(w64 ((3:Int) -  s0 ))))))))) (0:Nat) (0:UInt64));(((8:Int)≠(0:Int))∧(zaf (decide ( s0 =(0:Int))) (Q (za6 (0:UInt32))) ((((-(9223372036854775808:Int))≤(w64 ((8:Int)*(w64 ((3:Int) -  s0 )))))∧((w64 ((8:Int)*(w64 ((3:Int) -  s0 )))) < (9223372036854775808:Int)))∧((((0:Int)≤(0:Int))∧((0:Int) < (4:Int)))∧(zaf (decide ((3:Int) <  s0 )) ((((-(9223372036854775808:Int))≤(w64 ((8:Int)*(w64 ( s0  - (3:Int))))))∧((w64 ((8:Int)*(w64 ( s0  - (3:Int))))) < (9223372036854775808:Int)))∧((((0:Int)≤(0:Int))∧((0:Int) < (4:Int)))∧(zaf (decide ((8388607:UInt64) <  s1 )) (Q (za6 ((zcb (UInt32.ofInt (w64 ( s0 +(1:Int)))) (24:Nat)) ||| (UInt64.toUInt32 (zaa  s1  (8:Nat)))))) (Q (za6 ((zcb (UInt32.ofInt  s0 ) (24:Nat)) ||| (UInt64.toUInt32  s1 ))))))) (zaf (decide ((8388607:UInt64) <  s2 )) (Q (za6 ((zcb (UInt32.ofInt (w64 ( s0 +(1:Int)))) (24:Nat)) ||| (UInt64.toUInt32 (zaa  s2  (8:Nat)))))) (Q (za6 ((zcb (UInt32.ofInt  s0 ) (24:Nat)) ||| (UInt64.toUInt32  s2 ))))))))))):=by kernel_rfl
theorem zxS (t:Vector UInt64 4) {r} {Q:CallOut→Prop} (h:target_Bits t=some r) (hQ:Q (za6 r)):zac zn4 zid zoM zhZ zjS [.pv (.arr .u64 4 t)] [] Q :=
 Eq.mpr (zwQ t Q) (have h:=(target_Bits.eq_1 t).symm.trans h; ⟨by decide +kernel,zab h (fun h=>zag (Q:=Q) (e:=za6) h hQ) (fun h=>zad h fun hc0 h=>⟨by decide +kernel,zab h (fun h=>zad h fun hc1 h=>⟨by decide +kernel,zab h (fun h=>zag (Q:=Q) (e:=za6) h hQ) (fun h=>zag (Q:=Q) (e:=za6) h hQ)⟩) (fun h=>zab h (fun h=>zag (Q:=Q) (e:=za6) h hQ) (fun h=>zag (Q:=Q) (e:=za6) h hQ))⟩)⟩)
def zeK:Ans
 | [.pv (.arr .u64 4 t)],[]=>some (none,za6 (zdE t))
 | _,_=>none
theorem zsG:TblOK Tryd.prog theG ziL:=.cons ⟨by kernel_rfl,zpu⟩ (.cons ⟨by kernel_rfl,zmU⟩ (.cons ⟨by kernel_rfl,zqm⟩ (.nil)))
theorem zmd:FnOK Tryd.prog theG 57 (unW zeK):=by
 refine FnOK.ofC (T:=ziL) (nt:=37) (np:=0) (mv:=[]) (nf:=false) (hs:=zhZ) (fn:=Tryd.f57) (body:=zjS) zsG (by kernel_rfl) (by kernel_rfl) (by kernel_rfl) (by kernel_rfl) (c:=zeK) (lv:=zid) ?_
 intro xs mem p out h hp
 unfold zeK at h
 split at h
 ·cases h
  exact zxS _ (zqW _) rfl
 ·cases h
end
end Go.Proofs.YtnolgfdjcipmmaaDoor.M
namespace Go.Proofs.YtnolgfdjcipmmaaDoor.M
open Go
noncomputable section
set_option maxRecDepth 100000
set_option maxHeartbeats 0
noncomputable def znb:Tbl:=[(28,[],ziQ),(62,[],zhm),(63,[],ziv),(64,[],zgR),(57,[],zeK)]
noncomputable def zrW:CfgW:=mkC Tryd.prog theG znb 50 0 false
def zk8:Nat→List Nat:=fun i=>[]
noncomputable abbrev znn:Code:=Tryd.f44.body.getD .skip
noncomputable abbrev zrV:List ResultVar:=Tryd.f44.results.toList
def zk7:List Nat:=[]
def zaF (r:Vector UInt64 4 × Int):CallOut:=⟨.tup [.pv (.arr .u64 4 r.1),.pv (.sc .i r.2)],[],true,[]⟩
theorem zBh (b:UInt32) (Q:CallOut→Prop):zac zrW zk8 zrV zk7 znn [.pv (.sc .u32 b)] [] Q =
 (let s0:=(uV (uW (UInt64.toNat (UInt32.toUInt64 (b &&& (8388607:UInt32))))));let s1:=(w64 ((8:Int)*(w64 ((((UInt32.toNat (zaP b (24:Nat))):Nat):Int) - (3:Int)))));let s2:=(w64 ((8:Int)*(w64 ((3:Int) - (((UInt32.toNat (zaP b (24:Nat))):Nat):Int)))));((((-(9223372036854775808:Int))≤ s2 )∧( s2  < (9223372036854775808:Int)))∧(zaf (decide ((3:Int) < (((UInt32.toNat (zaP b (24:Nat))):Nat):Int))) (zaf (decide ((256:Int) < (w64 ((((lenN  s0 ):Nat):Int)+ s1 )))) (Q (zaF ((Vector.replicate 4 (0:UInt64)),(5:Int)))) ((((-(9223372036854775808:Int))≤ s1 )∧( s1  < (9223372036854775808:Int)))∧(zaf (eqb (!(decide ((b &&& (8388608:UInt32))=(0:UInt32)))) false) (zaf (eqb (bif false then true else(decide ((Vector.toList (uW ( s0 *((2:Nat) ^ (Int.toNat  s1 )))))=(Vector.toList (Vector.replicate 4 (0:UInt64)))))) false) (zaf (bif false then true else(!(decide ((zdE (uW ( s0 *((2:Nat) ^ (Int.toNat  s1 )))))=b)))) (Q (zaF ((Vector.replicate 4 (0:UInt64)),(5:Int)))) (Q (zaF ((uW ( s0 *((2:Nat) ^ (Int.toNat  s1 )))),(0:Int))))) (Q (zaF ((Vector.replicate 4 (0:UInt64)),(5:Int))))) (Q (zaF ((Vector.replicate 4 (0:UInt64)),(5:Int))))))) (zaf (eqb (!(decide ((b &&& (8388608:UInt32))=(0:UInt32)))) false) (zaf (eqb (bif false then true else(decide ((Vector.toList (uW ( s0  / ((2:Nat) ^ (Int.toNat  s2 )))))=(Vector.toList (Vector.replicate 4 (0:UInt64)))))) false) (zaf (bif false then true else(!(decide ((zdE (uW ( s0  / ((2:Nat) ^ (Int.toNat  s2 )))))=b)))) (Q (zaF ((Vector.replicate 4 (0:UInt64)),(5:Int)))) (Q (zaF ((uW ( s0  / ((2:Nat) ^ (Int.toNat  s2 )))),(0:Int))))) (Q (zaF ((Vector.replicate 4 (0:UInt64)),(5:Int))))) (Q (zaF ((Vector.replicate 4 (0:UInt64)),(5:Int)))))))):=by kernel_rfl
theorem zCy (b:UInt32) {r} {Q:CallOut→Prop} (h:target_Of b=some r) (hQ:Q (zaF r)):zac zrW zk8 zrV zk7 znn [.pv (.sc .u32 b)] [] Q :=
 Eq.mpr (zBh b Q) (have h:=(target_Of.eq_1 b).symm.trans h; zad h fun hc0 h=>zab h (fun h=>zab h (fun h=>zag (Q:=Q) (e:=zaF) h hQ) (fun h=>zad h fun hc1 h=>zab h (fun h=>zab h (fun h=>zab h (fun h=>zag (Q:=Q) (e:=zaF) h hQ) (fun h=>zag (Q:=Q) (e:=zaF) h hQ)) (fun h=>zag (Q:=Q) (e:=zaF) h hQ)) (fun h=>zag (Q:=Q) (e:=zaF) h hQ))) (fun h=>zab h (fun h=>zab h (fun h=>zab h (fun h=>zag (Q:=Q) (e:=zaF) h hQ) (fun h=>zag (Q:=Q) (e:=zaF) h hQ)) (fun h=>zag (Q:=Q) (e:=zaF) h hQ)) (fun h=>zag (Q:=Q) (e:=zaF) h hQ)))
def zgW:Ans
 | [.pv (.sc .u32 b)],[]=>some (none,zaF ((ofV b,ofE b)))
 | _,_=>none
theorem zxc:TblOK Tryd.prog theG znb:=.cons ⟨by kernel_rfl,zoC⟩ (.cons ⟨by kernel_rfl,zqm⟩ (.cons ⟨by kernel_rfl,zpu⟩ (.cons ⟨by kernel_rfl,zmU⟩ (.cons ⟨by kernel_rfl,zmd⟩ (.nil)))))
theorem zqp:FnOK Tryd.prog theG 44 (unW zgW):=by
 refine FnOK.ofC (T:=znb) (nt:=50) (np:=0) (mv:=[]) (nf:=false) (hs:=zk7) (fn:=Tryd.f44) (body:=znn) zxc (by kernel_rfl) (by kernel_rfl) (by kernel_rfl) (by kernel_rfl) (c:=zgW) (lv:=zk8) ?_
 intro xs mem p out h hp
 unfold zgW at h
 split at h
 ·cases h
  exact zCy _ (zul _) rfl
 ·cases h
end
end Go.Proofs.YtnolgfdjcipmmaaDoor.M
namespace Go.Proofs.YtnolgfdjcipmmaaDoor.M
open Go
noncomputable section
set_option maxRecDepth 100000
set_option maxHeartbeats 0
noncomputable def zjp:Tbl:=[(44,[],zgW),(28,[],ziQ),(26,[],zk9),(27,[],zhe),(45,[],zlV)]
noncomputable def zoP:CfgW:=mkC Tryd.prog theG zjp 52 0 false
def zhX:Nat→List Nat:=fun i=>[]
noncomputable abbrev zi1:Code:=Tryd.f21.body.getD .skip
noncomputable abbrev zoA:List ResultVar:=Tryd.f21.results.toList
def zhV:List Nat:=[]
def zbB (r:Vector UInt64 4 × Int):CallOut:=⟨.tup [.pv (.arr .u64 4 r.1),.pv (.sc .i r.2)],[],true,[]⟩
theorem zw6 (b:UInt32) (Q:CallOut→Prop):zac zoP zhX zoA zhV zi1 [.pv (.sc .u32 b)] [] Q =
  (zaf (!(decide ((ofE b)=(0:Int)))) (Q (zbB ((Vector.replicate 4 (0:UInt64)),(ofE b)))) (zaf (addB (ofV b) (uW (1:Nat))) (Q (zbB ((uW (1:Nat)),(0:Int)))) (Q (zbB ((addV (ovQ (subV (Vector.replicate 4 (0:UInt64)) (addV (ofV b) (uW (1:Nat)))) (addV (ofV b) (uW (1:Nat)))) (uW (1:Nat))),(0:Int)))))):=by kernel_rfl
theorem zxm (b:UInt32) {Q:CallOut→Prop} (h:Q (zbB (target_Work b))):zac zoP zhX zoA zhV zi1 [.pv (.sc .u32 b)] [] Q :=
 Eq.mpr (zw6 b Q) (have h:=Eq.mp (congrArg (fun r=>Q (zbB r)) (target_Work.eq_1 b)) h; zdd (Q:=fun r=>Q (zbB r)) h (fun h=>h) (fun h=>zdd (Q:=fun r=>Q (zbB r)) h (fun h=>h) (fun h=>h)))
def zeZ:Ans
 | [.pv (.sc .u32 b)],[]=>some (none,zbB ((zbN b,ofE b)))
 | _,_=>none
theorem zsu:TblOK Tryd.prog theG zjp:=.cons ⟨by kernel_rfl,zqp⟩ (.cons ⟨by kernel_rfl,zoC⟩ (.cons ⟨by kernel_rfl,zvo⟩ (.cons ⟨by kernel_rfl,zlq⟩ (.cons ⟨by kernel_rfl,zB9⟩ (.nil)))))
theorem zl6:FnOK Tryd.prog theG 21 (unW zeZ):=by
 refine FnOK.ofC (T:=zjp) (nt:=52) (np:=0) (mv:=[]) (nf:=false) (hs:=zhV) (fn:=Tryd.f21) (body:=zi1) zsu (by kernel_rfl) (by kernel_rfl) (by kernel_rfl) (by kernel_rfl) (c:=zeZ) (lv:=zhX) ?_
 intro xs mem p out h hp
 unfold zeZ at h
 split at h
 ·cases h
  exact zxm _ (congrArg zbB (zq6 _))
 ·cases h
end
end Go.Proofs.YtnolgfdjcipmmaaDoor.M
namespace Go.Proofs.YtnolgfdjcipmmaaDoor.M
open Go
noncomputable section
set_option maxRecDepth 100000
set_option maxHeartbeats 0
noncomputable def zgm:Tbl:=[(72,[],znQ),(73,[],znS)]
noncomputable def zjX:CfgW:=mkC Tryd.prog theG zgm 58 0 false
def zfb:Nat→List Nat:=fun i=>[]
noncomputable abbrev zgq:Code:=Tryd.f56.body.getD .skip
noncomputable abbrev zjU:List ResultVar:=Tryd.f56.results.toList
def zfg:List Nat:=[]
def zcD (r:Vector UInt64 4 × Bool):CallOut:=⟨.tup [.pv (.arr .u64 4 r.1),.pv (.sc .b r.2)],[],true,[]⟩
theorem zqS (a:Vector UInt64 4) (n:UInt64) (by_2:UInt64) (Q:CallOut→Prop):zac zjX zfb zjU zfg zgq [.pv (.arr .u64 4 a),.pv (.sc .u64 n),.pv (.sc .u64 by_2)] [] Q =
 (let s0:=(Vector.setIfInBounds (Vector.setIfInBounds (Vector.setIfInBounds (Vector.replicate 4 (0:UInt64)) (0:Nat) (List.getD (Vector.toList (uW ((uV a)*(UInt64.toNat n)))) (2:Nat) (0:UInt64))) (1:Nat) (List.getD (Vector.toList (uW ((uV a)*(UInt64.toNat n)))) (3:Nat) (0:UInt64))) (2:Nat) (mulC a n));let s1:=(Vector.toList (uW ((uV (Vector.setIfInBounds (Vector.setIfInBounds (Vector.setIfInBounds (Vector.replicate 4 (0:UInt64)) (0:Nat) (List.getD (Vector.toList (uW ((uV a)*(UInt64.toNat n)))) (0:Nat) (0:UInt64))) (1:Nat) (List.getD (Vector.toList (uW ((uV a)*(UInt64.toNat n)))) (1:Nat) (0:UInt64))) (2:Nat) (divR  s0  by_2))) / (UInt64.toNat by_2))));((((0:Int)≤(2:Int))∧((2:Int) < (4:Int)))∧((((0:Int)≤(3:Int))∧((3:Int) < (4:Int)))∧((((0:Int)≤(0:Int))∧((0:Int) < (4:Int)))∧((((0:Int)≤(1:Int))∧((1:Int) < (4:Int)))∧((((0:Int)≤(0:Int))∧((0:Int) < (4:Int)))∧((((0:Int)≤(1:Int))∧((1:Int) < (4:Int)))∧((((0:Int)≤(0:Int))∧((0:Int) < (4:Int)))∧((((0:Int)≤(1:Int))∧((1:Int) < (4:Int)))∧((((0:Int)≤(2:Int))∧((2:Int) < (4:Int)))∧(Q (zcD ((Vector.setIfInBounds (Vector.setIfInBounds (Vector.setIfInBounds (Vector.setIfInBounds (Vector.replicate 4 (0:UInt64)) (0:Nat) (List.getD  s1  (0:Nat) (0:UInt64))) (1:Nat) (List.getD  s1  (1:Nat) (0:UInt64))) (2:Nat) (List.getD (Vector.toList (uW ((uV  s0 ) / (UInt64.toNat by_2)))) (0:Nat) (0:UInt64))) (3:Nat) (List.getD (Vector.toList (uW ((uV  s0 ) / (UInt64.toNat by_2)))) (1:Nat) (0:UInt64))),(!(decide ((List.getD (Vector.toList (uW ((uV  s0 ) / (UInt64.toNat by_2)))) (2:Nat) (0:UInt64))=(0:UInt64))))))))))))))))):=by kernel_rfl
theorem zq1 (a:Vector UInt64 4) (n:UInt64) (by_2:UInt64) {Q:CallOut→Prop} (h:Q (zcD (target_product a n by_2))):zac zjX zfb zjU zfg zgq [.pv (.arr .u64 4 a),.pv (.sc .u64 n),.pv (.sc .u64 by_2)] [] Q :=
 Eq.mpr (zqS a n by_2 Q) (have h:=Eq.mp (congrArg (fun r=>Q (zcD r)) (target_product.eq_1 a n by_2)) h; ⟨by decide +kernel,⟨by decide +kernel,⟨by decide +kernel,⟨by decide +kernel,⟨by decide +kernel,⟨by decide +kernel,⟨by decide +kernel,⟨by decide +kernel,⟨by decide +kernel,h⟩⟩⟩⟩⟩⟩⟩⟩⟩)
def zek:Ans
 | [.pv (.arr .u64 4 a),.pv (.sc .u64 n),.pv (.sc .u64 by_2)],[]=>some (none,zcD ((znH a n by_2,zFv a n by_2)))
 | _,_=>none
theorem zom:TblOK Tryd.prog theG zgm:=.cons ⟨by kernel_rfl,zEh⟩ (.cons ⟨by kernel_rfl,zEI⟩ (.nil))
theorem zpt:FnOK Tryd.prog theG 56 (unW zek):=by
 refine FnOK.ofC (T:=zgm) (nt:=58) (np:=0) (mv:=[]) (nf:=false) (hs:=zfg) (fn:=Tryd.f56) (body:=zgq) zom (by kernel_rfl) (by kernel_rfl) (by kernel_rfl) (by kernel_rfl) (c:=zek) (lv:=zfb) ?_
 intro xs mem p out h hp
 unfold zek at h
 split at h
 ·cases h
  exact zq1 _ _ _ (congrArg zcD (zmP _ _ _))
 ·cases h
end
end Go.Proofs.YtnolgfdjcipmmaaDoor.M
namespace Go.Proofs.YtnolgfdjcipmmaaDoor.M
open Go
noncomputable section
set_option maxRecDepth 100000
set_option maxHeartbeats 0
noncomputable def ziZ:Tbl:=[(44,[],zgW),(56,[],zek),(29,[],ziy),(28,[],ziQ),(57,[],zeK)]
noncomputable def znF:CfgW:=mkC Tryd.prog theG ziZ 50 0 false
def zh4:Nat→List Nat:=fun i=>[]
noncomputable abbrev zjk:Code:=Tryd.f37.body.getD .skip
noncomputable abbrev znX:List ResultVar:=Tryd.f37.results.toList
def zh5:List Nat:=[]
def zaX (r:UInt32 × Int):CallOut:=⟨.tup [.pv (.sc .u32 r.1),.pv (.sc .i r.2)],[],true,[]⟩
theorem zxJ (b:UInt32) (span:UInt32) (Q:CallOut→Prop):zac znF zh4 znX zh5 zjk [.pv (.sc .u32 b),.pv (.sc .u32 span)] [] Q =
 (let s0:=(bif false then(if((120:UInt64) < (UInt32.toUInt64 span)) then(120:UInt64) else(UInt32.toUInt64 span)) else(if((UInt32.toUInt64 span) < (120:UInt64)) then(120:UInt64) else(UInt32.toUInt64 span)));let s1:=(bif true then(if((1920:UInt64) <  s0 ) then(1920:UInt64) else s0 ) else(if( s0  < (1920:UInt64)) then(1920:UInt64) else s0 ));(zaf (!(decide ((ofE b)=(0:Int)))) (Q (zaX ((0:UInt32),(ofE b)))) (zaf (eqb (zFv (ofV b)  s1  (480:UInt64)) false) (zaf (bif false then true else(subB (ofV (545259519:UInt32)) (znH (ofV b)  s1  (480:UInt64)))) (Q (zaX ((zdE (ofV (545259519:UInt32))),(0:Int)))) (zaf (decide ((Vector.toList (znH (ofV b)  s1  (480:UInt64)))=(Vector.toList (Vector.replicate 4 (0:UInt64))))) (Q (zaX ((zdE (uW (1:Nat))),(0:Int)))) (Q (zaX ((zdE (znH (ofV b)  s1  (480:UInt64))),(0:Int)))))) (Q (zaX ((zdE (ofV (545259519:UInt32))),(0:Int))))))):=by kernel_rfl
theorem zwX (b:UInt32) (span:UInt32) {Q:CallOut→Prop} (h:Q (zaX (target_Next b span))):zac znF zh4 znX zh5 zjk [.pv (.sc .u32 b),.pv (.sc .u32 span)] [] Q :=
 Eq.mpr (zxJ b span Q) (have h:=Eq.mp (congrArg (fun r=>Q (zaX r)) (target_Next.eq_1 b span)) h; zdd (Q:=fun r=>Q (zaX r)) h (fun h=>h) (fun h=>zdd (Q:=fun r=>Q (zaX r)) h (fun h=>zdd (Q:=fun r=>Q (zaX r)) h (fun h=>h) (fun h=>zdd (Q:=fun r=>Q (zaX r)) h (fun h=>h) (fun h=>h))) (fun h=>h)))
def zgt:Ans
 | [.pv (.sc .u32 b),.pv (.sc .u32 span)],[]=>some (none,zaX ((zFg b span,ofE b)))
 | _,_=>none
theorem zrD:TblOK Tryd.prog theG ziZ:=.cons ⟨by kernel_rfl,zqp⟩ (.cons ⟨by kernel_rfl,zpt⟩ (.cons ⟨by kernel_rfl,zr5⟩ (.cons ⟨by kernel_rfl,zoC⟩ (.cons ⟨by kernel_rfl,zmd⟩ (.nil)))))
theorem ztT:FnOK Tryd.prog theG 37 (unW zgt):=by
 refine FnOK.ofC (T:=ziZ) (nt:=50) (np:=0) (mv:=[]) (nf:=false) (hs:=zh5) (fn:=Tryd.f37) (body:=zjk) zrD (by kernel_rfl) (by kernel_rfl) (by kernel_rfl) (by kernel_rfl) (c:=zgt) (lv:=zh4) ?_
 intro xs mem p out h hp
 unfold zgt at h
 split at h
 ·cases h
  exact zwX _ _ (congrArg zaX (zq0 _ _))
 ·cases h
end
end Go.Proofs.YtnolgfdjcipmmaaDoor.M
