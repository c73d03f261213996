/- Part of the proofs: what functions of the program do: plain functions, and the walks that show it. No condition. -/
import Derived.KernelRfl
import Derived.Test.YtnolgfdjcipmmaaDoorProg
import Derived.Test.YtnolgfdjcipmmaaDoorLe
import Derived.Test.YtnolgfdjcipmmaaDoorFbig
import Derived.Test.YtnolgfdjcipmmaaDoorSwords
import Derived.Test.YtnolgfdjcipmmaaDoorSbigS
import Derived.Test.YtnolgfdjcipmmaaDoorSbigB
import Derived.Test.YtnolgfdjcipmmaaDoorStarS
import Derived.Test.YtnolgfdjcipmmaaDoorSshaK
set_option linter.unusedVariables false
set_option linter.unusedSimpArgs false
set_option autoImplicit false
namespace Go.Proofs.YtnolgfdjcipmmaaDoor.M
open Go
noncomputable section
def target_Bits (t:Vector UInt64 4):Option (UInt32) :=
  bif decide ((w64 (Int.tdiv (w64 ((((lenN (uV t)):Nat):Int)+(7:Int))) (8:Int)))=(0:Int)) then(some (0:UInt32))
    else(
          if((-(9223372036854775808:Int))≤(w64 ((8:Int)*(w64 ((3:Int) - (w64 (Int.tdiv (w64 ((((lenN (uV t)):Nat):Int)+(7:Int))) (8:Int))))))))∧((w64 ((8:Int)*(w64 ((3:Int) - (w64 (Int.tdiv (w64 ((((lenN (uV t)):Nat):Int)+(7:Int))) (8:Int))))))) < (9223372036854775808:Int)) then
      bif decide ((3:Int) < (w64 (Int.tdiv (w64 ((((lenN (uV t)):Nat):Int)+(7:Int))) (8:Int)))) then(if((-(9223372036854775808:Int))≤(w64 ((8:Int)*(w64 ((w64 (Int.tdiv (w64 ((((lenN (uV t)):Nat):Int)+(7:Int))) (8:Int))) - (3:Int))))))∧((w64 ((8:Int)*(w64 ((w64 (Int.tdiv (w64 ((((lenN (uV t)):Nat):Int)+(7:Int))) (8:Int))) - (3:Int))))) < (9223372036854775808:Int)) then
          bif decide ((8388607:UInt64) < (List.getD (Vector.toList (uW ((uV t) / ((2:Nat) ^ (Int.toNat (w64 ((8:Int)*(w64 ((w64 (Int.tdiv (w64 ((((lenN (uV t)):Nat):Int)+(7:Int))) (8:Int))) - (3:Int)))))))))) (0:Nat) (0:UInt64))) then(some ((zbA (UInt32.ofInt (w64 ((w64 (Int.tdiv (w64 ((((lenN (uV t)):Nat):Int)+(7:Int))) (8:Int)))+(1:Int)))) (24:Nat)) ||| (UInt64.toUInt32 (zaa (List.getD (Vector.toList (uW ((uV t) / ((2:Nat) ^ (Int.toNat (w64 ((8:Int)*(w64 ((w64 (Int.tdiv (w64 ((((lenN (uV t)):Nat):Int)+(7:Int))) (8:Int))) - (3:Int)))))))))) (0:Nat) (0:UInt64)) (8:Nat)))))
            else(some ((zbA (UInt32.ofInt (w64 (Int.tdiv (w64 ((((lenN (uV t)):Nat):Int)+(7:Int))) (8:Int)))) (24:Nat)) ||| (UInt64.toUInt32 (List.getD (Vector.toList (uW ((uV t) / ((2:Nat) ^ (Int.toNat (w64 ((8:Int)*(w64 ((w64 (Int.tdiv (w64 ((((lenN (uV t)):Nat):Int)+(7:Int))) (8:Int))) - (3:Int)))))))))) (0:Nat) (0:UInt64)))))
        else none)
        else(bif decide ((8388607:UInt64) < (List.getD (Vector.toList (uW ((uV t)*((2:Nat) ^ (Int.toNat (w64 ((8:Int)*(w64 ((3:Int) - (w64 (Int.tdiv (w64 ((((lenN (uV t)):Nat):Int)+(7:Int))) (8:Int)))))))))))) (0:Nat) (0:UInt64))) then(some ((zbA (UInt32.ofInt (w64 ((w64 (Int.tdiv (w64 ((((lenN (uV t)):Nat):Int)+(7:Int))) (8:Int)))+(1:Int)))) (24:Nat)) ||| (UInt64.toUInt32 (zaa (List.getD (Vector.toList (uW ((uV t)*((2:Nat) ^ (Int.toNat (w64 ((8:Int)*(w64 ((3:Int) - (w64 (Int.tdiv (w64 ((((lenN (uV t)):Nat):Int)+(7:Int))) (8:Int)))))))))))) (0:Nat) (0:UInt64)) (8:Nat)))))
          else(some ((zbA (UInt32.ofInt (w64 (Int.tdiv (w64 ((((lenN (uV t)):Nat):Int)+(7:Int))) (8:Int)))) (24:Nat)) ||| (UInt64.toUInt32 (List.getD (Vector.toList (uW ((uV t)*((2:Nat) ^ (Int.toNat (w64 ((8:Int)*(w64 ((3:Int) - (w64 (Int.tdiv (w64 ((((lenN (uV t)):Nat):Int)+(7:Int))) (8:Int)))))))))))) (0:Nat) (0:UInt64))))))
    else none)
theorem zjY (n:Nat) (X:UInt64) (t:Nat) (hn:n=byN t) (ht:t≠0) (h256:t < 2 ^ 256) (hX:X.toNat=preX t) (R:Vector UInt64 4) (hR:uV R=t) :
    (bif decide ((8388607:UInt64) < X) then(some ((zbA (UInt32.ofInt (w64 (((n:Nat):Int)+1))) 24) ||| (UInt64.toUInt32 (zaa X 8)))) else(some ((zbA (UInt32.ofInt ((n:Nat):Int)) 24) ||| (UInt64.toUInt32 X))))=some (zdP R):=by
  obtain ⟨p1,p2⟩:=zCs ht
  have hb:=zGN h256
  have val:∀ y:UInt32,y.toNat=ziE t→some y=some (zdP R):=by
    intro y hy
    exact congrArg some (UInt32.toNat_inj.1 (hy.trans (by rw[zxF,hR])))
  by_cases c:(8388607:UInt64) < X
  · rw[zav c,show w64 (((n:Nat):Int)+1)=((n+1:Nat):Int) by rw[zao (by omega) (by omega)]; omega]
    rw[UInt64.lt_iff_toNat_lt,hX,show (8388607:UInt64).toNat=8388607 from rfl]at c
    have e:(UInt64.toUInt32 (zaa X 8)).toNat=preX t / 256:=by
      rw[UInt64.toNat_toUInt32,zfG _ _ (by omega),hX]
      omega
    refine val _ ?_
    rw[sh24 _ _ (by omega) (by omega),e,p2,if_pos c,hn]
  · rw[zax c]
    rw[UInt64.lt_iff_toNat_lt,hX,show (8388607:UInt64).toNat=8388607 from rfl]at c
    have e:(UInt64.toUInt32 X).toNat=preX t:=by
      rw[UInt64.toNat_toUInt32,hX]
      omega
    refine val _ ?_
    rw[sh24 _ _ (by omega) (by omega),e,p2,if_neg c,hn]
theorem zqa (t:Vector UInt64 4):target_Bits t=some (zdP t):=by
  have h256:uV t < 2 ^ 256:=by rw[zo7]; exact znt t
  have hL:lenN (uV t)≤256:=zcJ.2 h256
  have hb:=zGN h256
  have e1:w64 (((lenN (uV t):Nat):Int)+7)=((lenN (uV t)+7:Nat):Int):=by rw[zao (by omega) (by omega)]; omega
  have e2:w64 (Int.tdiv ((lenN (uV t)+7:Nat):Int) 8)=((byN (uV t):Nat):Int):=by
    rw[show Int.tdiv ((lenN (uV t)+7:Nat):Int) 8=(((lenN (uV t)+7) / 8:Nat):Int)from rfl,zhw (by omega)]
    rfl
  rw[target_Bits,e1,e2]
  by_cases c0:byN (uV t)=0
  · rw[zav (by omega),zwb,zCi.1 c0]
    unfold ziE
    rw[if_pos rfl]
    rfl
  have ht:uV t≠0:=fun e=>c0 (zCi.2 e)
  have hp:=(zCs ht).1
  rw[zax (by omega)]
  have e3:w64 ((8:Int)*w64 ((3:Int) - ((byN (uV t):Nat):Int)))=(8:Int)*(3 - ((byN (uV t):Nat):Int)):=by
    rw[zao (x:=(3:Int) - ((byN (uV t):Nat):Int)) (by omega) (by omega),zao (by omega) (by omega)]
  have e4:w64 ((8:Int)*w64 (((byN (uV t):Nat):Int) - 3))=(8:Int)*(((byN (uV t):Nat):Int) - 3):=by
    rw[zao (x:=((byN (uV t):Nat):Int) - (3:Int)) (by omega) (by omega),zao (by omega) (by omega)]
  rw[e3,e4,if_pos (by omega)]
  have w0:∀ N:Nat,N=preX (uV t)→(List.getD (Vector.toList (uW N)) 0 0).toNat=preX (uV t):=by
    intro N hN
    rw[zfV,zkG _ _ (by omega),Nat.pow_zero,Nat.div_one,hN]
    omega
  by_cases c3:byN (uV t)≤3
  · rw[zax (by omega)]
    refine zjY _ _ (uV t) rfl ht h256 (w0 _ ?_) t rfl
    unfold preX
    rw[if_pos c3,show Int.toNat ((8:Int)*(3 - ((byN (uV t):Nat):Int)))=8*(3 - byN (uV t)) by omega]
  · rw[zav (by omega),if_pos (by omega)]
    refine zjY _ _ (uV t) rfl ht h256 (w0 _ ?_) t rfl
    unfold preX
    rw[if_neg c3,show Int.toNat ((8:Int)*(((byN (uV t):Nat):Int) - 3))=8*(byN (uV t) - 3) by omega]
end
end Go.Proofs.YtnolgfdjcipmmaaDoor.M
namespace Go.Proofs.YtnolgfdjcipmmaaDoor.M
open Go
noncomputable section
def target_Of (b:UInt32):Option (Vector UInt64 4 × Int) :=
  if(
      (-(9223372036854775808:Int))≤(w64 ((8:Int)*(w64 ((3:Int) - (((UInt32.toNat (zaE b (24:Nat))):Nat):Int))))))∧((w64 ((8:Int)*(w64 ((3:Int) - (((UInt32.toNat (zaE b (24:Nat))):Nat):Int))))) < (9223372036854775808:Int)) then
    bif decide (
                (3:Int) < (((UInt32.toNat (zaE b (24:Nat))):Nat):Int)) then(bif decide ((256:Int) < (w64 ((((lenN (uV (uW (UInt64.toNat (UInt32.toUInt64 (b &&& (8388607:UInt32))))))):Nat):Int)+(w64 ((8:Int)*(w64 ((((UInt32.toNat (zaE b (24:Nat))):Nat):Int) - (3:Int)))))))) then(some ((Vector.replicate 4 (0:UInt64)),(5:Int)))
        else(
              if((-(9223372036854775808:Int))≤(w64 ((8:Int)*(w64 ((((UInt32.toNat (zaE b (24:Nat))):Nat):Int) - (3:Int))))))∧((w64 ((8:Int)*(w64 ((((UInt32.toNat (zaE b (24:Nat))):Nat):Int) - (3:Int))))) < (9223372036854775808:Int)) then
          bif eqb (!(decide ((b &&& (8388608:UInt32))=(0:UInt32)))) false then(bif eqb (bif false then true else(decide ((Vector.toList (uW ((uV (uW (UInt64.toNat (UInt32.toUInt64 (b &&& (8388607:UInt32))))))*((2:Nat) ^ (Int.toNat (w64 ((8:Int)*(w64 ((((UInt32.toNat (zaE b (24:Nat))):Nat):Int) - (3:Int))))))))))=(Vector.toList (Vector.replicate 4 (0:UInt64)))))) false then(bif bif false then true else(!(decide ((zdP (uW ((uV (uW (UInt64.toNat (UInt32.toUInt64 (b &&& (8388607:UInt32))))))*((2:Nat) ^ (Int.toNat (w64 ((8:Int)*(w64 ((((UInt32.toNat (zaE b (24:Nat))):Nat):Int) - (3:Int))))))))))=b))) then(some ((Vector.replicate 4 (0:UInt64)),(5:Int)))
                else(some ((uW ((uV (uW (UInt64.toNat (UInt32.toUInt64 (b &&& (8388607:UInt32))))))*((2:Nat) ^ (Int.toNat (w64 ((8:Int)*(w64 ((((UInt32.toNat (zaE b (24:Nat))):Nat):Int) - (3:Int))))))))),(0:Int))))
              else(some ((Vector.replicate 4 (0:UInt64)),(5:Int))))
            else(some ((Vector.replicate 4 (0:UInt64)),(5:Int)))
        else none))
      else(
            bif eqb (!(decide ((b &&& (8388608:UInt32))=(0:UInt32)))) false then(bif eqb (bif false then true else(decide ((Vector.toList (uW ((uV (uW (UInt64.toNat (UInt32.toUInt64 (b &&& (8388607:UInt32)))))) / ((2:Nat) ^ (Int.toNat (w64 ((8:Int)*(w64 ((3:Int) - (((UInt32.toNat (zaE b (24:Nat))):Nat):Int))))))))))=(Vector.toList (Vector.replicate 4 (0:UInt64)))))) false then(bif bif false then true else(!(decide ((zdP (uW ((uV (uW (UInt64.toNat (UInt32.toUInt64 (b &&& (8388607:UInt32)))))) / ((2:Nat) ^ (Int.toNat (w64 ((8:Int)*(w64 ((3:Int) - (((UInt32.toNat (zaE b (24:Nat))):Nat):Int))))))))))=b))) then(some ((Vector.replicate 4 (0:UInt64)),(5:Int)))
            else(some ((uW ((uV (uW (UInt64.toNat (UInt32.toUInt64 (b &&& (8388607:UInt32)))))) / ((2:Nat) ^ (Int.toNat (w64 ((8:Int)*(w64 ((3:Int) - (((UInt32.toNat (zaE b (24:Nat))):Nat):Int))))))))),(0:Int))))
          else(some ((Vector.replicate 4 (0:UInt64)),(5:Int))))
        else(some ((Vector.replicate 4 (0:UInt64)),(5:Int))))
  else none
theorem zHb (n i:Nat):n &&& 2 ^ i=if n.testBit i=true then 2 ^ i else 0:=by
  apply Nat.eq_of_testBit_eq
  intro j
  rw[Nat.testBit_and,Nat.testBit_two_pow]
  by_cases h:i=j
  · subst h
    cases hb:n.testBit i<;>simp
  · rw[decide_eq_false h,Bool.and_false]
    split
    · rw[Nat.testBit_two_pow,decide_eq_false h]
    · rw[Nat.zero_testBit]
theorem ztV (b:UInt32):target_Of b=some (ofV b,ofE b):=by
  have hbl:=b.toNat_lt
  have he:(zaE b 24).toNat=b.toNat / 16777216:=by
    unfold zaE
    rw[UInt32.toNat_ofNat',Nat.min_eq_left (by decide)]
    omega
  have hm:(UInt64.toNat (UInt32.toUInt64 (b &&& 8388607)))=b.toNat % 8388608:=by
    rw[UInt32.toNat_toUInt64,UInt32.toNat_and,show (8388607:UInt32).toNat=2 ^ 23 - 1 from rfl,Nat.and_two_pow_sub_one_eq_mod]
  have hs:decide ((b &&& 8388608)=0)=decide (b.toNat / 8388608 % 2=0):=by
    rw[decide_eq_decide,←UInt32.toNat_inj,UInt32.toNat_and,show (8388608:UInt32).toNat=2 ^ 23 from rfl,zHb,Nat.testBit_eq_decide_div_mod_eq,show (0:UInt32).toNat=0 from rfl,show 2 ^ 23=8388608 from rfl]
    by_cases c:b.toNat / 8388608 % 2=1
    · rw[decide_eq_true c,if_pos rfl]; omega
    · rw[decide_eq_false c,if_neg (by decide)]; omega
  have hmv:uV (uW (b.toNat % 8388608))=b.toNat % 8388608:=by rw[zhJ,Nat.mod_eq_of_lt (by omega)]
  have fin:∀ T:Vector UInt64 4,uV T=tgtN b.toNat→tgtN b.toNat < 2 ^ 256→(bif eqb (!(decide ((b &&& (8388608:UInt32))=(0:UInt32)))) false then(bif eqb (bif false then true else(decide ((Vector.toList T)=(Vector.toList (Vector.replicate 4 (0:UInt64)))))) false then(bif bif false then true else(!(decide ((zdP T)=b))) then(some ((Vector.replicate 4 (0:UInt64)),(5:Int)))
                else(some (T,(0:Int))))
              else(some ((Vector.replicate 4 (0:UInt64)),(5:Int))))
            else(some ((Vector.replicate 4 (0:UInt64)),(5:Int))))=some (ofV b,ofE b):=by
    intro T hT hlt
    have hz:decide (Vector.toList T=Vector.toList (Vector.replicate 4 (0:UInt64)))=decide (uV T=0):=by rw[decide_eq_decide,zvW]
    have hq:decide (zdP T=b)=decide (ziE (uV T)=b.toNat):=by rw[decide_eq_decide,zEI]
    rw[←zHN hT hlt hs hz hq]
    cases decide ((b &&& 8388608)=0)<;>cases decide (Vector.toList T=Vector.toList (Vector.replicate 4 (0:UInt64)))<;>cases decide (zdP T=b)<;>rfl
  generalize eE:b.toNat / 16777216=E at *
  generalize eM:b.toNat % 8388608=M at *
  have hE:E < 256:=by omega
  have hM:M < 2 ^ 23:=by omega
  have e3:w64 ((8:Int)*w64 ((3:Int) - ((E:Nat):Int)))=(8:Int)*(3 - ((E:Nat):Int)):=by
    rw[zao (x:=(3:Int) - ((E:Nat):Int)) (by omega) (by omega),zao (by omega) (by omega)]
  have e4:w64 ((8:Int)*w64 (((E:Nat):Int) - 3))=(8:Int)*(((E:Nat):Int) - 3):=by
    rw[zao (x:=((E:Nat):Int) - (3:Int)) (by omega) (by omega),zao (by omega) (by omega)]
  have tg:tgtN b.toNat=if E≤3 then M / 2 ^ (8*(3 - E))else M*2 ^ (8*(E - 3)):=by unfold tgtN; rw[eE,eM]
  have hl:lenN M≤23:=zcJ.2 hM
  rw[target_Of,he,hm,hmv,e3,e4,if_pos (by omega)]
  by_cases c:E≤3
  · rw[zax (by omega),show Int.toNat ((8:Int)*(3 - ((E:Nat):Int)))=8*(3 - E) by omega]
    rw[if_pos c]at tg
    have hlt:M / 2 ^ (8*(3 - E)) < 2 ^ 256:=Nat.lt_of_le_of_lt (Nat.div_le_self _ _) (Nat.lt_of_lt_of_le hM (Nat.pow_le_pow_right (by decide) (by decide)))
    exact fin _ (by rw[zhJ,←zo7,Nat.mod_eq_of_lt hlt,tg]) (by rw[tg]; exact hlt)
  · rw[zav (by omega),show Int.toNat ((8:Int)*(((E:Nat):Int) - 3))=8*(E - 3) by omega,zao (by omega) (by omega)]
    rw[if_neg c]at tg
    by_cases d:lenN M+8*(E - 3)≤256
    · rw[zax (by omega),if_pos (by omega)]
      have hlt:M*2 ^ (8*(E - 3)) < 2 ^ 256:=by
        refine Nat.lt_of_lt_of_le (Nat.mul_lt_mul_of_pos_right (zcJ.1 (Nat.le_refl (lenN M))) (Nat.two_pow_pos _)) ?_
        rw[←Nat.pow_add]
        exact Nat.pow_le_pow_right (by decide) d
      exact fin _ (by rw[zhJ,←zo7,Nat.mod_eq_of_lt hlt,tg]) (by rw[tg]; exact hlt)
    · rw[zav (by omega)]
      refine congrArg some (zHU ?_)
      rintro ⟨g1,g2,g3,g4⟩
      rw[tg]at g1 g3
      have hM0:M≠0:=by
        intro e
        rw[e,Nat.zero_mul]at g3
        exact g3 rfl
      obtain ⟨h0,h1,h2⟩:=zqo hM0
      have:=Nat.mul_le_mul_right (2 ^ (8*(E - 3))) h1
      rw[←Nat.pow_add]at this
      have:2 ^ 256≤2 ^ (lenN M - 1+8*(E - 3)):=Nat.pow_le_pow_right (by decide) (by omega)
      omega
end
end Go.Proofs.YtnolgfdjcipmmaaDoor.M
namespace Go.Proofs.YtnolgfdjcipmmaaDoor.M
open Go
noncomputable section
def target_Work (b:UInt32):Vector UInt64 4 × Int :=
  bif !(decide ((ofE b)=(0:Int))) then(((Vector.replicate 4 (0:UInt64)),(ofE b)))
    else(bif addB (ofV b) (uW (1:Nat)) then(((uW (1:Nat)),(0:Int)))
      else(((addV (ovQ (subV (Vector.replicate 4 (0:UInt64)) (addV (ofV b) (uW (1:Nat)))) (addV (ofV b) (uW (1:Nat)))) (uW (1:Nat))),(0:Int))))
theorem zp5 (b:UInt32):target_Work b=(zcn b,ofE b):=by
  rw[target_Work,zCp]
  by_cases c:okP b.toNat
  · have e0:=(zox b).2 c
    have hT:=zAl c
    have hlt:tgtN b.toNat < 115792089237316195423570985008687907853269984665640564039457584007913129639936:=by rw[←zo7]; exact c.1
    have hne:=c.2.2.1
    rw[e0,decide_eq_true rfl,Bool.not_true,cond_false,if_pos c,zFg,hT,zCD]
    generalize tgtN b.toNat=T at *
    by_cases d:T+1 < 115792089237316195423570985008687907853269984665640564039457584007913129639936
    · rw[decide_eq_true d,Bool.not_true,cond_false]
      refine Prod.ext ?_ rfl
      show addV _ _=_
      have hm:uV (addV (ofV b) (uW 1))=T+1:=by rw[zGj,hT,zCD,Nat.mod_eq_of_lt d]
      rw[zBv,zEW,zhJ,hm,zB9,hm,zsc,zCD]
      rw[zF6 (d:=T+1) (by omega) (Nat.le_of_lt d)]
      have e1:(0+115792089237316195423570985008687907853269984665640564039457584007913129639936 - (T+1)) % 115792089237316195423570985008687907853269984665640564039457584007913129639936=115792089237316195423570985008687907853269984665640564039457584007913129639936 - (T+1):=by omega
      rw[e1]
      have e2:(115792089237316195423570985008687907853269984665640564039457584007913129639936 - (T+1)) / (T+1)≤115792089237316195423570985008687907853269984665640564039457584007913129639936 - (T+1):=Nat.div_le_self _ _
      rw[Nat.mod_eq_of_lt (a:=(115792089237316195423570985008687907853269984665640564039457584007913129639936 - (T+1)) / (T+1)) (by omega)]
    · rw[decide_eq_false d,Bool.not_false,cond_true,show T+1=115792089237316195423570985008687907853269984665640564039457584007913129639936 by omega,Nat.div_self (by decide)]
  · have e0:ofE b≠0:=fun e=>c ((zox b).1 e)
    rw[decide_eq_false e0,Bool.not_false,cond_true,if_neg c]
end
end Go.Proofs.YtnolgfdjcipmmaaDoor.M
namespace Go.Proofs.YtnolgfdjcipmmaaDoor.M
open Go
noncomputable section
def target_product (a:Vector UInt64 4) (n:UInt64) (by_2:UInt64):Vector UInt64 4 × Bool :=
  ((Vector.setIfInBounds (Vector.setIfInBounds (Vector.setIfInBounds (Vector.setIfInBounds (Vector.replicate 4 (0:UInt64)) (0:Nat) (List.getD (Vector.toList (uW ((uV (Vector.setIfInBounds (Vector.setIfInBounds (Vector.setIfInBounds (Vector.replicate 4 (0:UInt64)) (0:Nat) (List.getD (Vector.toList (uW ((uV a)*(UInt64.toNat n)))) (0:Nat) (0:UInt64))) (1:Nat) (List.getD (Vector.toList (uW ((uV a)*(UInt64.toNat n)))) (1:Nat) (0:UInt64))) (2:Nat) (divR (Vector.setIfInBounds (Vector.setIfInBounds (Vector.setIfInBounds (Vector.replicate 4 (0:UInt64)) (0:Nat) (List.getD (Vector.toList (uW ((uV a)*(UInt64.toNat n)))) (2:Nat) (0:UInt64))) (1:Nat) (List.getD (Vector.toList (uW ((uV a)*(UInt64.toNat n)))) (3:Nat) (0:UInt64))) (2:Nat) (mulC a n)) by_2))) / (UInt64.toNat by_2)))) (0:Nat) (0:UInt64))) (1:Nat) (List.getD (Vector.toList (uW ((uV (Vector.setIfInBounds (Vector.setIfInBounds (Vector.setIfInBounds (Vector.replicate 4 (0:UInt64)) (0:Nat) (List.getD (Vector.toList (uW ((uV a)*(UInt64.toNat n)))) (0:Nat) (0:UInt64))) (1:Nat) (List.getD (Vector.toList (uW ((uV a)*(UInt64.toNat n)))) (1:Nat) (0:UInt64))) (2:Nat) (divR (Vector.setIfInBounds (Vector.setIfInBounds (Vector.setIfInBounds (Vector.replicate 4 (0:UInt64)) (0:Nat) (List.getD (Vector.toList (uW ((uV a)*(UInt64.toNat n)))) (2:Nat) (0:UInt64))) (1:Nat) (List.getD (Vector.toList (uW ((uV a)*(UInt64.toNat n)))) (3:Nat) (0:UInt64))) (2:Nat) (mulC a n)) by_2))) / (UInt64.toNat by_2)))) (1:Nat) (0:UInt64))) (2:Nat) (List.getD (Vector.toList (uW ((uV (Vector.setIfInBounds (Vector.setIfInBounds (Vector.setIfInBounds (Vector.replicate 4 (0:UInt64)) (0:Nat) (List.getD (Vector.toList (uW ((uV a)*(UInt64.toNat n)))) (2:Nat) (0:UInt64))) (1:Nat) (List.getD (Vector.toList (uW ((uV a)*(UInt64.toNat n)))) (3:Nat) (0:UInt64))) (2:Nat) (mulC a n))) / (UInt64.toNat by_2)))) (0:Nat) (0:UInt64))) (3:Nat) (List.getD (Vector.toList (uW ((uV (Vector.setIfInBounds (Vector.setIfInBounds (Vector.setIfInBounds (Vector.replicate 4 (0:UInt64)) (0:Nat) (List.getD (Vector.toList (uW ((uV a)*(UInt64.toNat n)))) (2:Nat) (0:UInt64))) (1:Nat) (List.getD (Vector.toList (uW ((uV a)*(UInt64.toNat n)))) (3:Nat) (0:UInt64))) (2:Nat) (mulC a n))) / (UInt64.toNat by_2)))) (1:Nat) (0:UInt64))),(!(decide ((List.getD (Vector.toList (uW ((uV (Vector.setIfInBounds (Vector.setIfInBounds (Vector.setIfInBounds (Vector.replicate 4 (0:UInt64)) (0:Nat) (List.getD (Vector.toList (uW ((uV a)*(UInt64.toNat n)))) (2:Nat) (0:UInt64))) (1:Nat) (List.getD (Vector.toList (uW ((uV a)*(UInt64.toNat n)))) (3:Nat) (0:UInt64))) (2:Nat) (mulC a n))) / (UInt64.toNat by_2)))) (2:Nat) (0:UInt64))=(0:UInt64)))))
theorem zBS (x0 x1 x2:UInt64):uV (Vector.setIfInBounds (Vector.setIfInBounds (Vector.setIfInBounds (Vector.replicate 4 0) 0 x0) 1 x1) 2 x2)=x0.toNat+18446744073709551616*(x1.toNat+18446744073709551616*x2.toNat):=by
  unfold uV
  simp[zqZ,zpB]
theorem zHq (x0 x1 x2 x3:UInt64):uV (Vector.setIfInBounds (Vector.setIfInBounds (Vector.setIfInBounds (Vector.setIfInBounds (Vector.replicate 4 0) 0 x0) 1 x1) 2 x2) 3 x3)=x0.toNat+18446744073709551616*(x1.toNat+18446744073709551616*(x2.toNat+18446744073709551616*x3.toNat)):=by
  unfold uV
  simp[zqZ,zpB]
theorem zH5 {Y B:Nat} (hY:0 < Y) (A c:Nat):(A*B+c) / Y=A / Y*B+(A % Y*B+c) / Y:=by
  have h:=Nat.div_add_mod A Y
  have e:A*B+c=Y*(A / Y*B)+(A % Y*B+c):=by
    have:A*B=(Y*(A / Y)+A % Y)*B:=by rw[h]
    rw[this]
    grind
  rw[e,Nat.mul_add_div hY]
theorem zmx (a:Vector UInt64 4) (n m:UInt64):target_product a n m=(zm4 a n m,zDD a n m):=by
  rw[target_product,zBU,zCy]
  have hA:=znt a
  have hn:=n.toNat_lt
  have hP:uV a*n.toNat < 115792089237316195423570985008687907853269984665640564039457584007913129639936*18446744073709551616:=Nat.mul_lt_mul'' hA hn
  have hmul:(mulC a n).toNat=uV a*n.toNat / 115792089237316195423570985008687907853269984665640564039457584007913129639936:=by
    rw[zFx,UInt64.toNat_ofNat']
    omega
  generalize mulC a n=mc at *
  generalize uV a*n.toNat=P at *
  have w:∀ N j,j < 4→(List.getD (Vector.toList (uW N)) j 0).toNat=N / 18446744073709551616 ^ j % 18446744073709551616:=fun N j hj=>zkG N j hj
  have hhi:uV (Vector.setIfInBounds (Vector.setIfInBounds (Vector.setIfInBounds (Vector.replicate 4 (0:UInt64)) 0 (List.getD (Vector.toList (uW P)) 2 0)) 1 (List.getD (Vector.toList (uW P)) 3 0)) 2 mc)=P / 340282366920938463463374607431768211456:=by
    rw[zBS,w _ _ (by omega),w _ _ (by omega),hmul,show 18446744073709551616 ^ 2=340282366920938463463374607431768211456 from rfl,show 18446744073709551616 ^ 3=6277101735386680763835789423207666416102355444464034512896 from rfl]
    omega
  have hld:∀ x:UInt64,uV (Vector.setIfInBounds (Vector.setIfInBounds (Vector.setIfInBounds (Vector.replicate 4 (0:UInt64)) 0 (List.getD (Vector.toList (uW P)) 0 0)) 1 (List.getD (Vector.toList (uW P)) 1 0)) 2 x)=x.toNat*340282366920938463463374607431768211456+P % 340282366920938463463374607431768211456:=by
    intro x
    rw[zBS,w _ _ (by omega),w _ _ (by omega),Nat.pow_zero,Nat.pow_one]
    omega
  generalize eV:Vector.setIfInBounds (Vector.setIfInBounds (Vector.setIfInBounds (Vector.replicate 4 (0:UInt64)) 0 (List.getD (Vector.toList (uW P)) 2 0)) 1 (List.getD (Vector.toList (uW P)) 3 0)) 2 mc=V at *
  rw[hld,hhi]
  generalize eq:P / 340282366920938463463374607431768211456 / m.toNat=q
  have hq:q < 6277101735386680763835789423207666416102355444464034512896:=by
    rw[←eq]
    exact Nat.lt_of_le_of_lt (Nat.div_le_self _ _) (by omega)
  generalize er:((divR V m).toNat*340282366920938463463374607431768211456+P % 340282366920938463463374607431768211456) / m.toNat=r
  have main:P / m.toNat=q*340282366920938463463374607431768211456+r∧r < 340282366920938463463374607431768211456:=by
    by_cases c:m.toNat=0
    · rw[c,Nat.div_zero]at eq er
      rw[←eq,←er,c,Nat.div_zero]
      decide
    · have hm:0 < m.toNat:=by omega
      have hml:=m.toNat_lt
      have hl:=Nat.mod_lt (P / 340282366920938463463374607431768211456) hm
      have hd:(divR V m).toNat=P / 340282366920938463463374607431768211456 % m.toNat:=by
        rw[zBt,if_neg c,UInt64.toNat_ofNat',hhi,Nat.mod_eq_of_lt (by omega)]
      rw[hd]at er
      constructor
      · have:=zH5 (B:=340282366920938463463374607431768211456) hm (P / 340282366920938463463374607431768211456) (P % 340282366920938463463374607431768211456)
        rw[Nat.div_add_mod',eq,er]at this
        exact this
      · rw[←er,Nat.div_lt_iff_lt_mul hm]
        have:(P / 340282366920938463463374607431768211456 % m.toNat+1)*340282366920938463463374607431768211456≤m.toNat*340282366920938463463374607431768211456:=Nat.mul_le_mul_right _ hl
        rw[Nat.mul_comm _ m.toNat]
        omega
  obtain ⟨m1,m2⟩:=main
  rw[m1]
  refine Prod.ext ?_ ?_
  · apply zuw
    show uV (Vector.setIfInBounds _ _ _)=_
    rw[zHq,w _ _ (by omega),w _ _ (by omega),w _ _ (by omega),w _ _ (by omega),zhJ,Nat.pow_zero,Nat.pow_one]
    omega
  · show (!decide (List.getD (Vector.toList (uW q)) 2 0=0))=!decide _
    congr 1
    rw[decide_eq_decide,←UInt64.toNat_inj,w _ _ (by omega),show 18446744073709551616 ^ 2=340282366920938463463374607431768211456 from rfl,show (0:UInt64).toNat=0 from rfl]
    omega
end
end Go.Proofs.YtnolgfdjcipmmaaDoor.M
namespace Go.Proofs.YtnolgfdjcipmmaaDoor.M
open Go
noncomputable section
def target_Next (b:UInt32) (span:UInt32):UInt32 × Int :=
  bif !(
        decide ((ofE b)=(0:Int))) then(((0:UInt32),(ofE b)))
    else(
          bif eqb (zDD (ofV b) (bif true then(if((1920:UInt64) < (bif false then(if((120:UInt64) < (UInt32.toUInt64 span)) then(120:UInt64) else(UInt32.toUInt64 span)) else(if((UInt32.toUInt64 span) < (120:UInt64)) then(120:UInt64) else(UInt32.toUInt64 span)))) then(1920:UInt64) else(bif false then(if((120:UInt64) < (UInt32.toUInt64 span)) then(120:UInt64) else(UInt32.toUInt64 span)) else(if((UInt32.toUInt64 span) < (120:UInt64)) then(120:UInt64) else(UInt32.toUInt64 span)))) else(if((bif false then(if((120:UInt64) < (UInt32.toUInt64 span)) then(120:UInt64) else(UInt32.toUInt64 span)) else(if((UInt32.toUInt64 span) < (120:UInt64)) then(120:UInt64) else(UInt32.toUInt64 span))) < (1920:UInt64)) then(1920:UInt64) else(bif false then(if((120:UInt64) < (UInt32.toUInt64 span)) then(120:UInt64) else(UInt32.toUInt64 span)) else(if((UInt32.toUInt64 span) < (120:UInt64)) then(120:UInt64) else(UInt32.toUInt64 span))))) (480:UInt64)) false then(bif bif false then true else(subB (ofV (545259519:UInt32)) (zm4 (ofV b) (bif true then(if((1920:UInt64) < (bif false then(if((120:UInt64) < (UInt32.toUInt64 span)) then(120:UInt64) else(UInt32.toUInt64 span)) else(if((UInt32.toUInt64 span) < (120:UInt64)) then(120:UInt64) else(UInt32.toUInt64 span)))) then(1920:UInt64) else(bif false then(if((120:UInt64) < (UInt32.toUInt64 span)) then(120:UInt64) else(UInt32.toUInt64 span)) else(if((UInt32.toUInt64 span) < (120:UInt64)) then(120:UInt64) else(UInt32.toUInt64 span)))) else(if((bif false then(if((120:UInt64) < (UInt32.toUInt64 span)) then(120:UInt64) else(UInt32.toUInt64 span)) else(if((UInt32.toUInt64 span) < (120:UInt64)) then(120:UInt64) else(UInt32.toUInt64 span))) < (1920:UInt64)) then(1920:UInt64) else(bif false then(if((120:UInt64) < (UInt32.toUInt64 span)) then(120:UInt64) else(UInt32.toUInt64 span)) else(if((UInt32.toUInt64 span) < (120:UInt64)) then(120:UInt64) else(UInt32.toUInt64 span))))) (480:UInt64))) then(((zdP (ofV (545259519:UInt32))),(0:Int)))
        else(bif decide ((Vector.toList (zm4 (ofV b) (bif true then(if((1920:UInt64) < (bif false then(if((120:UInt64) < (UInt32.toUInt64 span)) then(120:UInt64) else(UInt32.toUInt64 span)) else(if((UInt32.toUInt64 span) < (120:UInt64)) then(120:UInt64) else(UInt32.toUInt64 span)))) then(1920:UInt64) else(bif false then(if((120:UInt64) < (UInt32.toUInt64 span)) then(120:UInt64) else(UInt32.toUInt64 span)) else(if((UInt32.toUInt64 span) < (120:UInt64)) then(120:UInt64) else(UInt32.toUInt64 span)))) else(if((bif false then(if((120:UInt64) < (UInt32.toUInt64 span)) then(120:UInt64) else(UInt32.toUInt64 span)) else(if((UInt32.toUInt64 span) < (120:UInt64)) then(120:UInt64) else(UInt32.toUInt64 span))) < (1920:UInt64)) then(1920:UInt64) else(bif false then(if((120:UInt64) < (UInt32.toUInt64 span)) then(120:UInt64) else(UInt32.toUInt64 span)) else(if((UInt32.toUInt64 span) < (120:UInt64)) then(120:UInt64) else(UInt32.toUInt64 span))))) (480:UInt64)))=(Vector.toList (Vector.replicate 4 (0:UInt64)))) then(((zdP (uW (1:Nat))),(0:Int)))
          else(((zdP (zm4 (ofV b) (bif true then(if((1920:UInt64) < (bif false then(if((120:UInt64) < (UInt32.toUInt64 span)) then(120:UInt64) else(UInt32.toUInt64 span)) else(if((UInt32.toUInt64 span) < (120:UInt64)) then(120:UInt64) else(UInt32.toUInt64 span)))) then(1920:UInt64) else(bif false then(if((120:UInt64) < (UInt32.toUInt64 span)) then(120:UInt64) else(UInt32.toUInt64 span)) else(if((UInt32.toUInt64 span) < (120:UInt64)) then(120:UInt64) else(UInt32.toUInt64 span)))) else(if((bif false then(if((120:UInt64) < (UInt32.toUInt64 span)) then(120:UInt64) else(UInt32.toUInt64 span)) else(if((UInt32.toUInt64 span) < (120:UInt64)) then(120:UInt64) else(UInt32.toUInt64 span))) < (1920:UInt64)) then(1920:UInt64) else(bif false then(if((120:UInt64) < (UInt32.toUInt64 span)) then(120:UInt64) else(UInt32.toUInt64 span)) else(if((UInt32.toUInt64 span) < (120:UInt64)) then(120:UInt64) else(UInt32.toUInt64 span))))) (480:UInt64))),(0:Int)))))
      else(((zdP (ofV (545259519:UInt32))),(0:Int))))
theorem zoG (span:UInt32):(if(1920:UInt64) < (if UInt32.toUInt64 span < 120 then 120 else UInt32.toUInt64 span) then(1920:UInt64) else(if UInt32.toUInt64 span < 120 then 120 else UInt32.toUInt64 span)).toNat=zjv span.toNat:=by
  have hs:(UInt32.toUInt64 span).toNat=span.toNat:=UInt32.toNat_toUInt64 span
  unfold zjv
  by_cases c1:UInt32.toUInt64 span < 120
  · rw[if_pos c1,if_neg (by decide)]
    rw[UInt64.lt_iff_toNat_lt,hs,show (120:UInt64).toNat=120 from rfl]at c1
    rw[if_pos c1]; rfl
  · rw[if_neg c1]
    rw[UInt64.lt_iff_toNat_lt,hs,show (120:UInt64).toNat=120 from rfl]at c1
    rw[if_neg c1]
    by_cases c2:1920 < UInt32.toUInt64 span
    · rw[if_pos c2]
      rw[UInt64.lt_iff_toNat_lt,hs,show (1920:UInt64).toNat=1920 from rfl]at c2
      rw[if_pos c2]; rfl
    · rw[if_neg c2]
      rw[UInt64.lt_iff_toNat_lt,hs,show (1920:UInt64).toNat=1920 from rfl]at c2
      rw[if_neg c2,hs]
theorem zra (b span:UInt32) (h:okP b.toNat) (m:UInt64) (hm:m.toNat=zjv span.toNat) :
    (bif eqb (zDD (ofV b) m 480) false then(bif subB (ofV 545259519) (zm4 (ofV b) m 480) then(zdP (ofV 545259519),(0:Int))
      else(bif decide (Vector.toList (zm4 (ofV b) m 480)=Vector.toList (Vector.replicate 4 (0:UInt64))) then(zdP (uW 1),0) else(zdP (zm4 (ofV b) m 480),0)))
      else(zdP (ofV 545259519),0))=(zDK b span,ofE b):=by
  have hT:=zAl h
  have hlim:limT < 115792089237316195423570985008687907853269984665640564039457584007913129639936:=by decide
  have fin1:limT < tgtN b.toNat*zjv span.toNat / 480→(zdP (ofV 545259519),(0:Int))=(zDK b span,ofE b):=by
    intro g
    refine zve h ?_
    rw[zEu]
    unfold zEa
    rw[if_pos g]
  rw[zCy,hT,hm,show (480:UInt64).toNat=480 from rfl]
  by_cases c1:tgtN b.toNat*zjv span.toNat / 480 < 115792089237316195423570985008687907853269984665640564039457584007913129639936
  · have vP:uV (zm4 (ofV b) m 480)=tgtN b.toNat*zjv span.toNat / 480:=by
      rw[zBU,hT,hm,show (480:UInt64).toNat=480 from rfl,zhJ,Nat.mod_eq_of_lt c1]
    rw[decide_eq_true c1,zrp,zEu,vP]
    simp only[eqb,Bool.not_true,Bool.not_false,cond_true]
    by_cases c3:limT < tgtN b.toNat*zjv span.toNat / 480
    · rw[zav c3]
      exact fin1 c3
    · rw[zax c3]
      have hz:decide (Vector.toList (zm4 (ofV b) m 480)=Vector.toList (Vector.replicate 4 (0:UInt64)))=decide (tgtN b.toNat*zjv span.toNat / 480=0):=by
        rw[decide_eq_decide,zvW,vP]
      rw[hz]
      by_cases c4:tgtN b.toNat*zjv span.toNat / 480=0
      · rw[zav c4]
        refine zve h ?_
        rw[zCD]
        unfold zEa
        rw[if_neg c3,if_pos c4]
      · rw[zax c4]
        refine zve h ?_
        rw[vP]
        unfold zEa
        rw[if_neg c3,if_neg c4]
  · rw[decide_eq_false c1]
    exact fin1 (by omega)
theorem zp2 (b span:UInt32):target_Next b span=(zDK b span,ofE b):=by
  rw[target_Next]
  by_cases h:okP b.toNat
  · have e0:=(zox b).2 h
    rw[decide_eq_true e0]
    simp only[Bool.not_true,cond_false,cond_true]
    exact zra b span h _ (zoG span)
  · have e0:ofE b≠0:=fun e=>h ((zox b).1 e)
    rw[decide_eq_false e0,Bool.not_false,cond_true,zCk,if_neg h]
end
end Go.Proofs.YtnolgfdjcipmmaaDoor.M
namespace Go.Proofs.YtnolgfdjcipmmaaDoor.M
open Go
noncomputable section
set_option maxRecDepth 100000
set_option maxHeartbeats 0
noncomputable def zih:Tbl:=[(63,[],zhE),(64,[],zfE),(62,[],zfT)]
noncomputable def zmS:CfgW:=mkC Tryd.prog theG zih 37 0 false
def zhc:Nat→List Nat:=fun i=>[]
noncomputable abbrev zi0:Code:=Tryd.f57.body.getD .skip
noncomputable abbrev znw:List ResultVar:=Tryd.f57.results.toList
def zhe:List Nat:=[]
def zaR (r:UInt32):CallOut:=⟨.pv (.sc .u32 r),[],true,[]⟩
theorem zw3 (t:Vector UInt64 4) (Q:CallOut→Prop):zab zmS zhc znw zhe zi0 [.pv (.arr .u64 4 t)] [] Q =
  (let s0:=(w64 (Int.tdiv (w64 ((((lenN (uV t)):Nat):Int)+(7:Int))) (8:Int)));let s1:=(List.getD (Vector.toList (uW ((uV t) / ((2:Nat) ^ (Int.toNat (w64 ((8:Int)*(w64 ( s0  - (3:Int)))))))))) (0:Nat) (0:UInt64));let s2:=(List.getD (Vector.toList (uW ((uV t)*((2:Nat) ^ (Int.toNat (w64 ((8:Int)*(w64 ((3:Int) -  s0 ))))))))) (0:Nat) (0:UInt64));(((8:Int)≠(0:Int))∧(zal (decide ( s0 =(0:Int))) (Q (zaR (0:UInt32))) ((((-(9223372036854775808:Int))≤(w64 ((8:Int)*(w64 ((3:Int) -  s0 )))))∧((w64 ((8:Int)*(w64 ((3:Int) -  s0 )))) < (9223372036854775808:Int)))∧((((0:Int)≤(0:Int))∧((0:Int) < (4:Int)))∧(zal (decide ((3:Int) <  s0 )) ((((-(9223372036854775808:Int))≤(w64 ((8:Int)*(w64 ( s0  - (3:Int))))))∧((w64 ((8:Int)*(w64 ( s0  - (3:Int))))) < (9223372036854775808:Int)))∧((((0:Int)≤(0:Int))∧((0:Int) < (4:Int)))∧(zal (decide ((8388607:UInt64) <  s1 )) (Q (zaR ((zbA (UInt32.ofInt (w64 ( s0 +(1:Int)))) (24:Nat)) ||| (UInt64.toUInt32 (zaa  s1  (8:Nat)))))) (Q (zaR ((zbA (UInt32.ofInt  s0 ) (24:Nat)) ||| (UInt64.toUInt32  s1 ))))))) (zal (decide ((8388607:UInt64) <  s2 )) (Q (zaR ((zbA (UInt32.ofInt (w64 ( s0 +(1:Int)))) (24:Nat)) ||| (UInt64.toUInt32 (zaa  s2  (8:Nat)))))) (Q (zaR ((zbA (UInt32.ofInt  s0 ) (24:Nat)) ||| (UInt64.toUInt32  s2 ))))))))))):=by kernel_rfl
theorem zxn (t:Vector UInt64 4) {r} {Q:CallOut→Prop} (h:target_Bits t=some r) (hQ:Q (zaR r)):zab zmS zhc znw zhe zi0 [.pv (.arr .u64 4 t)] [] Q :=
  Eq.mpr (zw3 t Q) (have h:=(target_Bits.eq_1 t).symm.trans h; ⟨by decide +kernel,zae h (fun h=>zam (Q:=Q) (e:=zaR) h hQ) (fun h=>zad h fun hc0 h=>⟨by decide +kernel,zae h (fun h=>zad h fun hc1 h=>⟨by decide +kernel,zae h (fun h=>zam (Q:=Q) (e:=zaR) h hQ) (fun h=>zam (Q:=Q) (e:=zaR) h hQ)⟩) (fun h=>zae h (fun h=>zam (Q:=Q) (e:=zaR) h hQ) (fun h=>zam (Q:=Q) (e:=zaR) h hQ))⟩)⟩)
def zdz:Ans
  | [.pv (.arr .u64 4 t)],[]=>some (none,zaR (zdP t))
  | _,_=>none
theorem zq5:TblOK Tryd.prog theG zih:=.cons ⟨by kernel_rfl,zoy⟩ (.cons ⟨by kernel_rfl,zmM⟩ (.cons ⟨by kernel_rfl,zpQ⟩ (.nil)))
theorem zlq:FnOK Tryd.prog theG 57 (unW zdz):=by
  refine FnOK.ofC (T:=zih) (nt:=37) (np:=0) (mv:=[]) (nf:=false) (hs:=zhe) (fn:=Tryd.f57) (body:=zi0) zq5 (by kernel_rfl) (by kernel_rfl) (by kernel_rfl) (by kernel_rfl) (c:=zdz) (lv:=zhc) ?_
  intro xs mem p out h hp
  unfold zdz at h
  split at h
  · cases h
    exact zxn _ (zqa _) rfl
  · cases h
end
end Go.Proofs.YtnolgfdjcipmmaaDoor.M
namespace Go.Proofs.YtnolgfdjcipmmaaDoor.M
open Go
noncomputable section
set_option maxRecDepth 100000
set_option maxHeartbeats 0
noncomputable def zmk:Tbl:=[(28,[],zfh),(62,[],zfT),(63,[],zhE),(64,[],zfE),(57,[],zdz)]
noncomputable def zqR:CfgW:=mkC Tryd.prog theG zmk 50 0 false
def zkD:Nat→List Nat:=fun i=>[]
noncomputable abbrev zl0:Code:=Tryd.f44.body.getD .skip
noncomputable abbrev zsj:List ResultVar:=Tryd.f44.results.toList
def zjC:List Nat:=[]
def zay (r:Vector UInt64 4 × Int):CallOut:=⟨.tup [.pv (.arr .u64 4 r.1),.pv (.sc .i r.2)],[],true,[]⟩
theorem zAL (b:UInt32) (Q:CallOut→Prop):zab zqR zkD zsj zjC zl0 [.pv (.sc .u32 b)] [] Q =
  (let s0:=(uV (uW (UInt64.toNat (UInt32.toUInt64 (b &&& (8388607:UInt32))))));let s1:=(w64 ((8:Int)*(w64 ((((UInt32.toNat (zaE b (24:Nat))):Nat):Int) - (3:Int)))));let s2:=(w64 ((8:Int)*(w64 ((3:Int) - (((UInt32.toNat (zaE b (24:Nat))):Nat):Int)))));((((-(9223372036854775808:Int))≤ s2 )∧( s2  < (9223372036854775808:Int)))∧(zal (decide ((3:Int) < (((UInt32.toNat (zaE b (24:Nat))):Nat):Int))) (zal (decide ((256:Int) < (w64 ((((lenN  s0 ):Nat):Int)+ s1 )))) (Q (zay ((Vector.replicate 4 (0:UInt64)),(5:Int)))) ((((-(9223372036854775808:Int))≤ s1 )∧( s1  < (9223372036854775808:Int)))∧(zal (eqb (!(decide ((b &&& (8388608:UInt32))=(0:UInt32)))) false) (zal (eqb (bif false then true else(decide ((Vector.toList (uW ( s0 *((2:Nat) ^ (Int.toNat  s1 )))))=(Vector.toList (Vector.replicate 4 (0:UInt64)))))) false) (zal (bif false then true else(!(decide ((zdP (uW ( s0 *((2:Nat) ^ (Int.toNat  s1 )))))=b)))) (Q (zay ((Vector.replicate 4 (0:UInt64)),(5:Int)))) (Q (zay ((uW ( s0 *((2:Nat) ^ (Int.toNat  s1 )))),(0:Int))))) (Q (zay ((Vector.replicate 4 (0:UInt64)),(5:Int))))) (Q (zay ((Vector.replicate 4 (0:UInt64)),(5:Int))))))) (zal (eqb (!(decide ((b &&& (8388608:UInt32))=(0:UInt32)))) false) (zal (eqb (bif false then true else(decide ((Vector.toList (uW ( s0  / ((2:Nat) ^ (Int.toNat  s2 )))))=(Vector.toList (Vector.replicate 4 (0:UInt64)))))) false) (zal (bif false then true else(!(decide ((zdP (uW ( s0  / ((2:Nat) ^ (Int.toNat  s2 )))))=b)))) (Q (zay ((Vector.replicate 4 (0:UInt64)),(5:Int)))) (Q (zay ((uW ( s0  / ((2:Nat) ^ (Int.toNat  s2 )))),(0:Int))))) (Q (zay ((Vector.replicate 4 (0:UInt64)),(5:Int))))) (Q (zay ((Vector.replicate 4 (0:UInt64)),(5:Int)))))))):=by kernel_rfl
theorem zAa (b:UInt32) {r} {Q:CallOut→Prop} (h:target_Of b=some r) (hQ:Q (zay r)):zab zqR zkD zsj zjC zl0 [.pv (.sc .u32 b)] [] Q :=
  Eq.mpr (zAL b Q) (have h:=(target_Of.eq_1 b).symm.trans h; zad h fun hc0 h=>zae h (fun h=>zae h (fun h=>zam (Q:=Q) (e:=zay) h hQ) (fun h=>zad h fun hc1 h=>zae h (fun h=>zae h (fun h=>zae h (fun h=>zam (Q:=Q) (e:=zay) h hQ) (fun h=>zam (Q:=Q) (e:=zay) h hQ)) (fun h=>zam (Q:=Q) (e:=zay) h hQ)) (fun h=>zam (Q:=Q) (e:=zay) h hQ))) (fun h=>zae h (fun h=>zae h (fun h=>zae h (fun h=>zam (Q:=Q) (e:=zay) h hQ) (fun h=>zam (Q:=Q) (e:=zay) h hQ)) (fun h=>zam (Q:=Q) (e:=zay) h hQ)) (fun h=>zam (Q:=Q) (e:=zay) h hQ)))
def zfH:Ans
  | [.pv (.sc .u32 b)],[]=>some (none,zay ((ofV b,ofE b)))
  | _,_=>none
theorem zxe:TblOK Tryd.prog theG zmk:=.cons ⟨by kernel_rfl,zhG⟩ (.cons ⟨by kernel_rfl,zpQ⟩ (.cons ⟨by kernel_rfl,zoy⟩ (.cons ⟨by kernel_rfl,zmM⟩ (.cons ⟨by kernel_rfl,zlq⟩ (.nil)))))
theorem zpw:FnOK Tryd.prog theG 44 (unW zfH):=by
  refine FnOK.ofC (T:=zmk) (nt:=50) (np:=0) (mv:=[]) (nf:=false) (hs:=zjC) (fn:=Tryd.f44) (body:=zl0) zxe (by kernel_rfl) (by kernel_rfl) (by kernel_rfl) (by kernel_rfl) (c:=zfH) (lv:=zkD) ?_
  intro xs mem p out h hp
  unfold zfH at h
  split at h
  · cases h
    exact zAa _ (ztV _) rfl
  · cases h
end
end Go.Proofs.YtnolgfdjcipmmaaDoor.M
namespace Go.Proofs.YtnolgfdjcipmmaaDoor.M
open Go
noncomputable section
set_option maxRecDepth 100000
set_option maxHeartbeats 0
noncomputable def ziY:Tbl:=[(44,[],zfH),(28,[],zfh),(26,[],zfI),(27,[],zdG),(45,[],zk4)]
noncomputable def znF:CfgW:=mkC Tryd.prog theG ziY 52 0 false
def zhp:Nat→List Nat:=fun i=>[]
noncomputable abbrev zjt:Code:=Tryd.f21.body.getD .skip
noncomputable abbrev zn2:List ResultVar:=Tryd.f21.results.toList
def zg3:List Nat:=[]
def zbe (r:Vector UInt64 4 × Int):CallOut:=⟨.tup [.pv (.arr .u64 4 r.1),.pv (.sc .i r.2)],[],true,[]⟩
theorem zwG (b:UInt32) (Q:CallOut→Prop):zab znF zhp zn2 zg3 zjt [.pv (.sc .u32 b)] [] Q =
    (zal (!(decide ((ofE b)=(0:Int)))) (Q (zbe ((Vector.replicate 4 (0:UInt64)),(ofE b)))) (zal (addB (ofV b) (uW (1:Nat))) (Q (zbe ((uW (1:Nat)),(0:Int)))) (Q (zbe ((addV (ovQ (subV (Vector.replicate 4 (0:UInt64)) (addV (ofV b) (uW (1:Nat)))) (addV (ofV b) (uW (1:Nat)))) (uW (1:Nat))),(0:Int)))))):=by kernel_rfl
theorem zwl (b:UInt32) {Q:CallOut→Prop} (h:Q (zbe (target_Work b))):zab znF zhp zn2 zg3 zjt [.pv (.sc .u32 b)] [] Q :=
  Eq.mpr (zwG b Q) (have h:=Eq.mp (congrArg (fun r=>Q (zbe r)) (target_Work.eq_1 b)) h; zcK (Q:=fun r=>Q (zbe r)) h (fun h=>h) (fun h=>zcK (Q:=fun r=>Q (zbe r)) h (fun h=>h) (fun h=>h)))
def zcg:Ans
  | [.pv (.sc .u32 b)],[]=>some (none,zbe ((zcn b,ofE b)))
  | _,_=>none
theorem zsw:TblOK Tryd.prog theG ziY:=.cons ⟨by kernel_rfl,zpw⟩ (.cons ⟨by kernel_rfl,zhG⟩ (.cons ⟨by kernel_rfl,zkQ⟩ (.cons ⟨by kernel_rfl,zfA⟩ (.cons ⟨by kernel_rfl,zz9⟩ (.nil)))))
theorem zex:FnOK Tryd.prog theG 21 (unW zcg):=by
  refine FnOK.ofC (T:=ziY) (nt:=52) (np:=0) (mv:=[]) (nf:=false) (hs:=zg3) (fn:=Tryd.f21) (body:=zjt) zsw (by kernel_rfl) (by kernel_rfl) (by kernel_rfl) (by kernel_rfl) (c:=zcg) (lv:=zhp) ?_
  intro xs mem p out h hp
  unfold zcg at h
  split at h
  · cases h
    exact zwl _ (congrArg zbe (zp5 _))
  · cases h
end
end Go.Proofs.YtnolgfdjcipmmaaDoor.M
namespace Go.Proofs.YtnolgfdjcipmmaaDoor.M
open Go
noncomputable section
set_option maxRecDepth 100000
set_option maxHeartbeats 0
noncomputable def ze5:Tbl:=[(72,[],zmZ),(73,[],zng)]
noncomputable def zjy:CfgW:=mkC Tryd.prog theG ze5 58 0 false
def zdR:Nat→List Nat:=fun i=>[]
noncomputable abbrev ze8:Code:=Tryd.f56.body.getD .skip
noncomputable abbrev zjx:List ResultVar:=Tryd.f56.results.toList
def zdV:List Nat:=[]
def zbT (r:Vector UInt64 4 × Bool):CallOut:=⟨.tup [.pv (.arr .u64 4 r.1),.pv (.sc .b r.2)],[],true,[]⟩
theorem zqj (a:Vector UInt64 4) (n:UInt64) (by_2:UInt64) (Q:CallOut→Prop):zab zjy zdR zjx zdV ze8 [.pv (.arr .u64 4 a),.pv (.sc .u64 n),.pv (.sc .u64 by_2)] [] Q =
  (let s0:=(Vector.setIfInBounds (Vector.setIfInBounds (Vector.setIfInBounds (Vector.replicate 4 (0:UInt64)) (0:Nat) (List.getD (Vector.toList (uW ((uV a)*(UInt64.toNat n)))) (2:Nat) (0:UInt64))) (1:Nat) (List.getD (Vector.toList (uW ((uV a)*(UInt64.toNat n)))) (3:Nat) (0:UInt64))) (2:Nat) (mulC a n));let s1:=(Vector.toList (uW ((uV (Vector.setIfInBounds (Vector.setIfInBounds (Vector.setIfInBounds (Vector.replicate 4 (0:UInt64)) (0:Nat) (List.getD (Vector.toList (uW ((uV a)*(UInt64.toNat n)))) (0:Nat) (0:UInt64))) (1:Nat) (List.getD (Vector.toList (uW ((uV a)*(UInt64.toNat n)))) (1:Nat) (0:UInt64))) (2:Nat) (divR  s0  by_2))) / (UInt64.toNat by_2))));((((0:Int)≤(2:Int))∧((2:Int) < (4:Int)))∧((((0:Int)≤(3:Int))∧((3:Int) < (4:Int)))∧((((0:Int)≤(0:Int))∧((0:Int) < (4:Int)))∧((((0:Int)≤(1:Int))∧((1:Int) < (4:Int)))∧((((0:Int)≤(0:Int))∧((0:Int) < (4:Int)))∧((((0:Int)≤(1:Int))∧((1:Int) < (4:Int)))∧((((0:Int)≤(0:Int))∧((0:Int) < (4:Int)))∧((((0:Int)≤(1:Int))∧((1:Int) < (4:Int)))∧((((0:Int)≤(2:Int))∧((2:Int) < (4:Int)))∧(Q (zbT ((Vector.setIfInBounds (Vector.setIfInBounds (Vector.setIfInBounds (Vector.setIfInBounds (Vector.replicate 4 (0:UInt64)) (0:Nat) (List.getD  s1  (0:Nat) (0:UInt64))) (1:Nat) (List.getD  s1  (1:Nat) (0:UInt64))) (2:Nat) (List.getD (Vector.toList (uW ((uV  s0 ) / (UInt64.toNat by_2)))) (0:Nat) (0:UInt64))) (3:Nat) (List.getD (Vector.toList (uW ((uV  s0 ) / (UInt64.toNat by_2)))) (1:Nat) (0:UInt64))),(!(decide ((List.getD (Vector.toList (uW ((uV  s0 ) / (UInt64.toNat by_2)))) (2:Nat) (0:UInt64))=(0:UInt64))))))))))))))))):=by kernel_rfl
theorem zp3 (a:Vector UInt64 4) (n:UInt64) (by_2:UInt64) {Q:CallOut→Prop} (h:Q (zbT (target_product a n by_2))):zab zjy zdR zjx zdV ze8 [.pv (.arr .u64 4 a),.pv (.sc .u64 n),.pv (.sc .u64 by_2)] [] Q :=
  Eq.mpr (zqj a n by_2 Q) (have h:=Eq.mp (congrArg (fun r=>Q (zbT r)) (target_product.eq_1 a n by_2)) h; ⟨by decide +kernel,⟨by decide +kernel,⟨by decide +kernel,⟨by decide +kernel,⟨by decide +kernel,⟨by decide +kernel,⟨by decide +kernel,⟨by decide +kernel,⟨by decide +kernel,h⟩⟩⟩⟩⟩⟩⟩⟩⟩)
def zc2:Ans
  | [.pv (.arr .u64 4 a),.pv (.sc .u64 n),.pv (.sc .u64 by_2)],[]=>some (none,zbT ((zm4 a n by_2,zDD a n by_2)))
  | _,_=>none
theorem znE:TblOK Tryd.prog theG ze5:=.cons ⟨by kernel_rfl,zCK⟩ (.cons ⟨by kernel_rfl,zDN⟩ (.nil))
theorem zoK:FnOK Tryd.prog theG 56 (unW zc2):=by
  refine FnOK.ofC (T:=ze5) (nt:=58) (np:=0) (mv:=[]) (nf:=false) (hs:=zdV) (fn:=Tryd.f56) (body:=ze8) znE (by kernel_rfl) (by kernel_rfl) (by kernel_rfl) (by kernel_rfl) (c:=zc2) (lv:=zdR) ?_
  intro xs mem p out h hp
  unfold zc2 at h
  split at h
  · cases h
    exact zp3 _ _ _ (congrArg zbT (zmx _ _ _))
  · cases h
end
end Go.Proofs.YtnolgfdjcipmmaaDoor.M
namespace Go.Proofs.YtnolgfdjcipmmaaDoor.M
open Go
noncomputable section
set_option maxRecDepth 100000
set_option maxHeartbeats 0
noncomputable def zjb:Tbl:=[(44,[],zfH),(56,[],zc2),(29,[],zeb),(28,[],zfh),(57,[],zdz)]
noncomputable def znJ:CfgW:=mkC Tryd.prog theG zjb 50 0 false
def zgM:Nat→List Nat:=fun i=>[]
noncomputable abbrev zir:Code:=Tryd.f37.body.getD .skip
noncomputable abbrev znc:List ResultVar:=Tryd.f37.results.toList
def zhs:List Nat:=[]
def zaL (r:UInt32 × Int):CallOut:=⟨.tup [.pv (.sc .u32 r.1),.pv (.sc .i r.2)],[],true,[]⟩
theorem zv0 (b:UInt32) (span:UInt32) (Q:CallOut→Prop):zab znJ zgM znc zhs zir [.pv (.sc .u32 b),.pv (.sc .u32 span)] [] Q =
  (let s0:=(bif false then(if((120:UInt64) < (UInt32.toUInt64 span)) then(120:UInt64) else(UInt32.toUInt64 span)) else(if((UInt32.toUInt64 span) < (120:UInt64)) then(120:UInt64) else(UInt32.toUInt64 span)));let s1:=(bif true then(if((1920:UInt64) <  s0 ) then(1920:UInt64) else s0 ) else(if( s0  < (1920:UInt64)) then(1920:UInt64) else s0 ));(zal (!(decide ((ofE b)=(0:Int)))) (Q (zaL ((0:UInt32),(ofE b)))) (zal (eqb (zDD (ofV b)  s1  (480:UInt64)) false) (zal (bif false then true else(subB (ofV (545259519:UInt32)) (zm4 (ofV b)  s1  (480:UInt64)))) (Q (zaL ((zdP (ofV (545259519:UInt32))),(0:Int)))) (zal (decide ((Vector.toList (zm4 (ofV b)  s1  (480:UInt64)))=(Vector.toList (Vector.replicate 4 (0:UInt64))))) (Q (zaL ((zdP (uW (1:Nat))),(0:Int)))) (Q (zaL ((zdP (zm4 (ofV b)  s1  (480:UInt64))),(0:Int)))))) (Q (zaL ((zdP (ofV (545259519:UInt32))),(0:Int))))))):=by kernel_rfl
theorem zvb (b:UInt32) (span:UInt32) {Q:CallOut→Prop} (h:Q (zaL (target_Next b span))):zab znJ zgM znc zhs zir [.pv (.sc .u32 b),.pv (.sc .u32 span)] [] Q :=
  Eq.mpr (zv0 b span Q) (have h:=Eq.mp (congrArg (fun r=>Q (zaL r)) (target_Next.eq_1 b span)) h; zcK (Q:=fun r=>Q (zaL r)) h (fun h=>h) (fun h=>zcK (Q:=fun r=>Q (zaL r)) h (fun h=>zcK (Q:=fun r=>Q (zaL r)) h (fun h=>h) (fun h=>zcK (Q:=fun r=>Q (zaL r)) h (fun h=>h) (fun h=>h))) (fun h=>h)))
def zcM:Ans
  | [.pv (.sc .u32 b),.pv (.sc .u32 span)],[]=>some (none,zaL ((zDK b span,ofE b)))
  | _,_=>none
theorem zsC:TblOK Tryd.prog theG zjb:=.cons ⟨by kernel_rfl,zpw⟩ (.cons ⟨by kernel_rfl,zoK⟩ (.cons ⟨by kernel_rfl,ziS⟩ (.cons ⟨by kernel_rfl,zhG⟩ (.cons ⟨by kernel_rfl,zlq⟩ (.nil)))))
theorem zgV:FnOK Tryd.prog theG 37 (unW zcM):=by
  refine FnOK.ofC (T:=zjb) (nt:=50) (np:=0) (mv:=[]) (nf:=false) (hs:=zhs) (fn:=Tryd.f37) (body:=zir) zsC (by kernel_rfl) (by kernel_rfl) (by kernel_rfl) (by kernel_rfl) (c:=zcM) (lv:=zgM) ?_
  intro xs mem p out h hp
  unfold zcM at h
  split at h
  · cases h
    exact zvb _ _ (congrArg zaL (zp2 _ _))
  · cases h
end
end Go.Proofs.YtnolgfdjcipmmaaDoor.M
