/- Part of the proofs: what functions of the program do: plain functions, and the walks that show it. No condition. -/
import Derived.KernelRfl
import Derived.Test.YtnolgfdjcipmmaaDoorLe
import Derived.Test.YtnolgfdjcipmmaaDoorSbigS
import Derived.Test.YtnolgfdjcipmmaaDoorSwords
set_option linter.unusedVariables false
set_option linter.unusedSimpArgs false
set_option autoImplicit false
namespace Go.Proofs.YtnolgfdjcipmmaaDoor.M
open Go
theorem zwP:∀ (l:List UInt8) (i:Nat),(numU l).testBit i=(List.getD l (i / 8) 0).toNat.testBit (i % 8)
 | [],i=>by simp[numU]
 | x :: r,i=>by
  have hx:=x.toNat_lt
  have e:=Nat.testBit_two_pow_mul_add (numU r) (i:=8) (b:=x.toNat) hx i
  have e2:numU (x :: r)=2 ^ 8*numU r+x.toNat:=by
   rw[numU]; omega
  rw[e2,e]
  by_cases c:i < 8
  ·rw[if_pos c,show i / 8=0 by omega,show i % 8=i by omega]
   rfl
  ·rw[if_neg c,zwP r (i - 8),show i / 8=(i - 8) / 8+1 by omega,show i % 8=(i - 8) % 8 by omega]
   rfl
theorem zvb (x:UInt8) (t:Nat) (h:8≤t):x.toNat.testBit t=false:=by
 refine Nat.testBit_lt_two_pow (Nat.lt_of_lt_of_le x.toNat_lt ?_)
 exact Nat.pow_le_pow_right (by decide) h
theorem zHo {x y:UInt8} (h:∀ t,t < 8→x.toNat.testBit t=y.toNat.testBit t):x=y:=by
 rw[←UInt8.toNat_inj]
 apply Nat.eq_of_testBit_eq
 intro t
 by_cases ht:t < 8
 ·exact h t ht
 ·rw[zvb _ _ (by omega),zvb _ _ (by omega)]
noncomputable def zlX (n:Nat):Vector UInt8 32:=lock (Vector.ofFn fun i:Fin 32=>UInt8.ofNat (n / 2 ^ (8*i.val)))
theorem zAA (n i:Nat) (h:i < 32):List.getD (Vector.toList (zlX n)) i 0=UInt8.ofNat (n / 2 ^ (8*i)):=by
 unfold zlX
 rw[za7]
 exact zkJ (fun i:Fin 32=>UInt8.ofNat (n / 2 ^ (8*i.val))) i 0 h
theorem zGL (n i t:Nat) (h:i < 32) (ht:t < 8):(List.getD (Vector.toList (zlX n)) i 0).toNat.testBit t=n.testBit (8*i+t):=by
 rw[zAA _ _ h,UInt8.toNat_ofNat',Nat.testBit_mod_two_pow,decide_eq_true ht,Bool.true_and,Nat.testBit_div_two_pow,Nat.add_comm]
theorem zGW {n:Nat} {v:Vector UInt8 32} (h:∀ i t,i < 32→t < 8→(List.getD (Vector.toList v) i 0).toNat.testBit t=n.testBit (8*i+t)):v=zlX n:=by
 refine vext 0 fun i hi=>zHo fun t ht=>?_
 rw[h i t hi ht,zGL _ _ _ hi ht]
theorem zIs (h:Vector UInt8 32):numU (Vector.toList h) < 115792089237316195423570985008687907853269984665640564039457584007913129639936:=by
 have:=zF0 (Vector.toList h)
 rw[Vector.length_toList]at this
 exact this
theorem zJI (h:Vector UInt8 32):uV (uW (numU (Vector.toList h)))=numU (Vector.toList h):=by
 rw[zfy,Nat.mod_eq_of_lt (zIs h)]
noncomputable def zjY (h:Vector UInt8 32):Vector UInt64 4:=lock (uW (numU (Vector.toList h)))
theorem zDm (h:Vector UInt8 32):zjY h=uW (numU (Vector.toList h)):=za7 _
theorem zGQ (h:Vector UInt8 32):uV (zjY h)=numU (Vector.toList h):=by rw[zDm,zJI]
end Go.Proofs.YtnolgfdjcipmmaaDoor.M
namespace Go.Proofs.YtnolgfdjcipmmaaDoor.M
open Go
theorem zBg (a:Vector UInt64 4) (j t:Nat) (h:64≤t):(gW a j).testBit t=false:=zuZ _ _ h
theorem zFU (a:Vector UInt64 4) (N j:Nat) (hN:N < 256) (hj:j < 4) (h:N / 64≤j) (t:Nat) (ht:t < 64) :
  ((decide (N % 64≤t) && (gW a (j - N / 64)).testBit (t - N % 64)) || (decide (0 < j - N / 64∧N % 64≠0) && (gW a (j - N / 64 - 1)).testBit (t+(64 - N % 64))))=(uV a*2 ^ N).testBit (64*j+t):=by
 rw[Nat.testBit_mul_two_pow]
 by_cases c:N % 64≤t
 ·rw[decide_eq_true c,Bool.true_and,zBg a _ (t+(64 - N % 64)) (by omega),Bool.and_false,Bool.or_false,decide_eq_true (by omega),Bool.true_and,zvn a _ _ (by omega) (by omega)]
  congr 1; omega
 ·rw[decide_eq_false c,Bool.false_and,Bool.false_or]
  by_cases d:0 < j - N / 64
  ·rw[decide_eq_true (by omega),decide_eq_true (by omega),Bool.true_and,Bool.true_and,zvn a _ _ (by omega) (by omega)]
   congr 1; omega
  ·rw[decide_eq_false (by omega),decide_eq_false (by omega),Bool.false_and,Bool.false_and]
theorem zFG (a:Vector UInt64 4) (N j:Nat) (hN:N < 256) (h:j+N / 64 < 4) (t:Nat) (ht:t < 64) :
  ((gW a (j+N / 64)).testBit (t+N % 64) || (decide (j+N / 64+1 < 4∧N % 64≠0) && (decide (64 - N % 64≤t) && (gW a (j+N / 64+1)).testBit (t - (64 - N % 64)))))=(uV a / 2 ^ N).testBit (64*j+t):=by
 rw[Nat.testBit_div_two_pow]
 by_cases c:t+N % 64 < 64
 ·rw[zvn a _ _ (by omega) (by omega)]
  rw[decide_eq_false (p:=64 - N % 64≤t) (by omega),Bool.false_and,Bool.and_false,Bool.or_false]
  congr 1; omega
 ·rw[zBg a _ _ (by omega),Bool.false_or]
  by_cases d:j+N / 64+1 < 4
  ·rw[decide_eq_true (by omega),decide_eq_true (by omega),Bool.true_and,Bool.true_and,zvn a _ _ (by omega) (by omega)]
   congr 1; omega
  ·rw[decide_eq_false (by omega),Bool.false_and,zsY _ _ (by omega)]
theorem zl3 (N:Nat) (h:N < 256):(UInt64.toNat ((UInt64.ofInt ((N:Nat):Int)) % (64:UInt64)))=N % 64:=by
 rw[UInt64.toNat_mod,zto (by omega)]
 rfl
theorem zGK (N:Nat) (h:N < 256):(UInt64.toNat ((64:UInt64) - ((UInt64.ofInt ((N:Nat):Int)) % (64:UInt64))))=64 - N % 64:=by
 rw[UInt64.toNat_sub,zl3 N h,show (64:UInt64).toNat=64 from rfl]
 omega
theorem vecI {x:Vector UInt64 4} {n:Nat} (h:∀ j t,j < 4→t < 64→(gW x j).testBit t=n.testBit (64*j+t)):x=uW n:=by
 refine zim fun i hi=>?_
 rw[zrz _ _ hi,h _ _ (by omega) (by omega),zmh,decide_eq_true hi,Bool.true_and]
 congr 1; omega
end Go.Proofs.YtnolgfdjcipmmaaDoor.M
namespace Go.Proofs.YtnolgfdjcipmmaaDoor.M
open Go
theorem zIW {A B i:Nat} (hB:0 < B) (x:Bool) (hx:x=A.testBit i) :
  (A / B).testBit i=decide (B≤2*(A / 2 ^ (i+1) % B)+x.toNat)∧A / 2 ^ i % B=(if B≤2*(A / 2 ^ (i+1) % B)+x.toNat then 2*(A / 2 ^ (i+1) % B)+x.toNat - B else 2*(A / 2 ^ (i+1) % B)+x.toNat):=by
 have hs:=zsR A i
 rw[←hx]at hs
 have e1:A / B / 2 ^ i=A / 2 ^ i / B:=by rw[Nat.div_div_eq_div_mul,Nat.div_div_eq_div_mul,Nat.mul_comm]
 rw[Nat.testBit_eq_decide_div_mod_eq,e1,hs]
 generalize A / 2 ^ (i+1)=X
 have hm:=Nat.div_add_mod X B
 have hl:=Nat.mod_lt X hB
 have hb:x.toNat≤1:=by cases x<;>simp
 generalize x.toNat=b at *
 generalize X % B=r at *
 generalize X / B=q at *
 have e2:2*X+b=B*(2*q)+(2*r+b):=by rw[←hm]; grind
 rw[e2,Nat.mul_add_div hB,Nat.mul_add_mod,Nat.mul_add_mod]
 by_cases c:B≤2*r+b
 ·have e3:(2*r+b) / B=1:=Nat.div_eq_of_lt_le (by omega) (by omega)
  have e4:(2*r+b) % B=2*r+b - B:=by
   rw[Nat.mod_eq_sub_mod c,Nat.mod_eq_of_lt (by omega)]
  rw[e3,e4,if_pos c]
  refine ⟨?_,rfl⟩
  rw[decide_eq_decide]; omega
 ·rw[Nat.div_eq_of_lt (show 2*r+b < B by omega),Nat.mod_eq_of_lt (show 2*r+b < B by omega),if_neg c]
  refine ⟨?_,rfl⟩
  rw[decide_eq_decide]; omega
theorem zCn (r:Nat) (x:Bool) (j:Nat):(2*r+x.toNat).testBit j=if j=0 then x else r.testBit (j - 1):=by
 have h:x.toNat < 2 ^ 1:=by cases x<;>decide
 have:=Nat.testBit_two_pow_mul_add r (i:=1) h j
 rw[show 2 ^ 1=2 from rfl]at this
 rw[this]
 by_cases c:j=0
 ·subst c; cases x<;>rfl
 ·rw[if_neg (by omega),if_neg c]
theorem zDd (q:Vector UInt64 4) (w:Nat) (x:UInt64) (hw:w < 4) (j:Nat) (hj:j < 256):(uV (Vector.setIfInBounds q w x)).testBit j=if j / 64=w then x.toNat.testBit (j % 64) else(uV q).testBit j:=by
 rw[zrz _ _ hj,znR _ _ _ _ hw]
 by_cases c:w=j / 64
 ·rw[if_pos c,if_pos c.symm]
 ·rw[if_neg c,if_neg (fun e=>c e.symm),zrz _ _ hj]
theorem zGm (j:Nat):(1:UInt64).toNat.testBit j=decide (j=0):=by
 rw[show (1:UInt64).toNat=2 ^ 0 from rfl,Nat.testBit_two_pow,decide_eq_decide]
 omega
theorem zJy (r:Nat):Vector.setIfInBounds (uW (r*2 ^ 1)) 0 (List.getD (Vector.toList (uW (r*2 ^ 1))) 0 0 ||| 1)=uW (2*r+1):=by
 refine zim fun j hj=>?_
 have h:=zCn r true j
 have h0:=zCn r false j
 rw[Bool.toNat_true]at h
 rw[Bool.toNat_false,Nat.add_zero]at h0
 have e:r*2 ^ 1=2*r:=by omega
 rw[zDd _ _ _ (by omega) _ hj,zDr,ze9,zGm,zmh,zmh,decide_eq_true hj,Bool.true_and,Bool.true_and,e,h]
 by_cases c:j / 64=0
 ·rw[if_pos c,zvn _ _ _ (by omega) (by omega),zmh,decide_eq_true (by omega),Bool.true_and,show 64*0+j % 64=j by omega,h0]
  by_cases d:j=0
  ·rw[if_pos d,if_pos d,decide_eq_true (by omega)]; rfl
  ·rw[if_neg d,if_neg d,decide_eq_false (by omega),Bool.or_false]
 ·rw[if_neg c,h0,if_neg (by omega),if_neg (by omega)]
theorem zJW (q:Vector UInt64 4) (n j:Nat) (hn:n < 256) (hj:j < 256):(uV (Vector.setIfInBounds q (n / 64) (List.getD (Vector.toList q) (n / 64) 0 ||| zaq 1 (n % 64)))).testBit j=((uV q).testBit j || decide (j=n)):=by
 rw[zDd _ _ _ (by omega) _ hj,zDr,ze9,zx5 _ _ _ (by omega),zGm]
 by_cases c:j / 64=n / 64
 ·rw[if_pos c,←c,←zrz _ _ hj,decide_eq_true (p:=j % 64 < 64) (by omega),Bool.true_and]
  congr 1
  by_cases d:j=n
  ·rw[decide_eq_true d,decide_eq_true (by omega),decide_eq_true (by omega)]; rfl
  ·rw[decide_eq_false d]
   by_cases e:n % 64≤j % 64
   ·rw[decide_eq_false (p:=j % 64 - n % 64=0) (by omega),Bool.and_false]
   ·rw[decide_eq_false e,Bool.false_and]
 ·rw[if_neg c,decide_eq_false (by omega),Bool.or_false]
theorem zIX (r:Vector UInt64 4):(uV r).testBit 255=decide (57896044618658097711785492504343953926634992332820282019728792003956564819968≤uV r):=by
 have h:=zgl r
 rw[Nat.testBit_eq_decide_div_mod_eq,decide_eq_decide,show 2 ^ 255=57896044618658097711785492504343953926634992332820282019728792003956564819968 from by decide]
 omega
theorem zJB {Y B:Nat} {b:Vector UInt64 4} (hb:uV b=B) (h:B≤Y) (h2:Y - B < B):uV (subV (uW Y) b)=Y - B:=by
 have:=zgl b
 rw[zrd,zfy,hb]
 omega
theorem znN (a b r:Vector UInt64 4) (i:Nat) (hB:0 < uV b) (hr:uV r=uV a / 2 ^ (i+1) % uV b) {α:Type} (T:Vector UInt64 4→α) (U:Vector UInt64 4→α) (x:Bool) (hx:x=(uV a).testBit i) (Y:Vector UInt64 4) (hY:Y=uW (2*uV r+x.toNat)) :
  ∃ r',uV r'=uV a / 2 ^ i % uV b∧(bif eqb (Nat.testBit (uV r) 255) false then(bif bif false then true else !(subB Y b)then T (subV Y b)else U Y)else T (subV Y b))=if (uV a / uV b).testBit i then T r' else U r':=by
 have hs:=zIW hB x hx
 rw[←hr]at hs
 have hl:uV r < uV b:=by rw[hr]; exact Nat.mod_lt _ hB
 have hb:=zgl b
 have h1:x.toNat≤1:=by cases x<;>simp
 rw[zIX]
 by_cases c:uV b≤2*uV r+x.toNat
 ·rw[if_pos c,decide_eq_true c]at hs
  refine ⟨subV Y b,?_,?_⟩
  ·rw[hY,zJB rfl c (by omega)]
   exact hs.2.symm
  ·rw[if_pos hs.1]
   by_cases d:57896044618658097711785492504343953926634992332820282019728792003956564819968≤uV r
   ·rw[decide_eq_true d]; rfl
   ·rw[decide_eq_false d]
    have:subB Y b=false:=by
     rw[zgr]
     rw[hY,zfy,Nat.mod_eq_of_lt (by omega)]
     exact decide_eq_false (by omega)
    rw[this]; rfl
 ·rw[if_neg c,decide_eq_false c]at hs
  have e:uV Y=2*uV r+x.toNat:=by rw[hY,zfy,Nat.mod_eq_of_lt (by omega)]
  refine ⟨Y,?_,?_⟩
  ·rw[e]; exact hs.2.symm
  ·rw[hs.1,if_neg (by decide),decide_eq_false (by omega)]
   have:subB Y b=true:=by
    rw[zgr]
    rw[e]
    exact decide_eq_true (by omega)
   rw[this]; rfl
end Go.Proofs.YtnolgfdjcipmmaaDoor.M
