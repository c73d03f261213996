/- Part of the proofs: what functions of the program do: plain functions, and the walks that show it. No condition. -/
import Derived.KernelRfl
import Derived.Test.YtnolgfdjcipmmaaDoorLe
import Derived.Test.YtnolgfdjcipmmaaDoorSbigS
import Derived.Test.YtnolgfdjcipmmaaDoorSwords
set_option linter.unusedVariables false
set_option linter.unusedSimpArgs false
set_option autoImplicit false
namespace Go.Proofs.YtnolgfdjcipmmaaDoor.M
open Go
end Go.Proofs.YtnolgfdjcipmmaaDoor.M
namespace Go.Proofs.YtnolgfdjcipmmaaDoor.M
open Go
theorem zFM (a:Vector UInt64 4) (j t:Nat) (h:64≤t):(gW a j).testBit t=false:=zuO _ _ h
theorem zFK (a:Vector UInt64 4) (N j:Nat) (hN:N < 256) (hj:j < 4) (h:N / 64≤j) (t:Nat) (ht:t < 64) :
    ((decide (N % 64≤t) && (gW a (j - N / 64)).testBit (t - N % 64)) || (decide (0 < j - N / 64∧N % 64≠0) && (gW a (j - N / 64 - 1)).testBit (t+(64 - N % 64))))=(uV a*2 ^ N).testBit (64*j+t):=by
  rw[Nat.testBit_mul_two_pow]
  by_cases c:N % 64≤t
  · rw[decide_eq_true c,Bool.true_and,zFM a _ (t+(64 - N % 64)) (by omega),Bool.and_false,Bool.or_false,decide_eq_true (by omega),Bool.true_and,zzm a _ _ (by omega) (by omega)]
    congr 1; omega
  · rw[decide_eq_false c,Bool.false_and,Bool.false_or]
    by_cases d:0 < j - N / 64
    · rw[decide_eq_true (by omega),decide_eq_true (by omega),Bool.true_and,Bool.true_and,zzm a _ _ (by omega) (by omega)]
      congr 1; omega
    · rw[decide_eq_false (by omega),decide_eq_false (by omega),Bool.false_and,Bool.false_and]
theorem zDG (a:Vector UInt64 4) (N j:Nat) (hN:N < 256) (h:j+N / 64 < 4) (t:Nat) (ht:t < 64) :
    ((gW a (j+N / 64)).testBit (t+N % 64) || (decide (j+N / 64+1 < 4∧N % 64≠0) && (decide (64 - N % 64≤t) && (gW a (j+N / 64+1)).testBit (t - (64 - N % 64)))))=(uV a / 2 ^ N).testBit (64*j+t):=by
  rw[Nat.testBit_div_two_pow]
  by_cases c:t+N % 64 < 64
  · rw[zzm a _ _ (by omega) (by omega)]
    rw[decide_eq_false (p:=64 - N % 64≤t) (by omega),Bool.false_and,Bool.and_false,Bool.or_false]
    congr 1; omega
  · rw[zFM a _ _ (by omega),Bool.false_or]
    by_cases d:j+N / 64+1 < 4
    · rw[decide_eq_true (by omega),decide_eq_true (by omega),Bool.true_and,Bool.true_and,zzm a _ _ (by omega) (by omega)]
      congr 1; omega
    · rw[decide_eq_false (by omega),Bool.false_and,zrc _ _ (by omega)]
theorem zlz (N:Nat) (h:N < 256):(UInt64.toNat ((UInt64.ofInt ((N:Nat):Int)) % (64:UInt64)))=N % 64:=by
  rw[UInt64.toNat_mod,zx3 (by omega)]
  rfl
theorem zE7 (N:Nat) (h:N < 256):(UInt64.toNat ((64:UInt64) - ((UInt64.ofInt ((N:Nat):Int)) % (64:UInt64))))=64 - N % 64:=by
  rw[UInt64.toNat_sub,zlz N h,show (64:UInt64).toNat=64 from rfl]
  omega
theorem vecI {x:Vector UInt64 4} {n:Nat} (h:∀ j t,j < 4→t < 64→(gW x j).testBit t=n.testBit (64*j+t)):x=uW n:=by
  refine zkx fun i hi=>?_
  rw[zue _ _ hi,h _ _ (by omega) (by omega),zpg,decide_eq_true hi,Bool.true_and]
  congr 1; omega
end Go.Proofs.YtnolgfdjcipmmaaDoor.M
namespace Go.Proofs.YtnolgfdjcipmmaaDoor.M
open Go
theorem zHl {A B i:Nat} (hB:0 < B) (x:Bool) (hx:x=A.testBit i) :
    (A / B).testBit i=decide (B≤2*(A / 2 ^ (i+1) % B)+x.toNat)∧A / 2 ^ i % B=(if B≤2*(A / 2 ^ (i+1) % B)+x.toNat then 2*(A / 2 ^ (i+1) % B)+x.toNat - B else 2*(A / 2 ^ (i+1) % B)+x.toNat):=by
  have hs:=zFJ A i
  rw[←hx]at hs
  have e1:A / B / 2 ^ i=A / 2 ^ i / B:=by rw[Nat.div_div_eq_div_mul,Nat.div_div_eq_div_mul,Nat.mul_comm]
  rw[Nat.testBit_eq_decide_div_mod_eq,e1,hs]
  generalize A / 2 ^ (i+1)=X
  have hm:=Nat.div_add_mod X B
  have hl:=Nat.mod_lt X hB
  have hb:x.toNat≤1:=by cases x<;>simp
  generalize x.toNat=b at *
  generalize X % B=r at *
  generalize X / B=q at *
  have e2:2*X+b=B*(2*q)+(2*r+b):=by rw[←hm]; grind
  rw[e2,Nat.mul_add_div hB,Nat.mul_add_mod,Nat.mul_add_mod]
  by_cases c:B≤2*r+b
  · have e3:(2*r+b) / B=1:=Nat.div_eq_of_lt_le (by omega) (by omega)
    have e4:(2*r+b) % B=2*r+b - B:=by
      rw[Nat.mod_eq_sub_mod c,Nat.mod_eq_of_lt (by omega)]
    rw[e3,e4,if_pos c]
    refine ⟨?_,rfl⟩
    rw[decide_eq_decide]; omega
  · rw[Nat.div_eq_of_lt (show 2*r+b < B by omega),Nat.mod_eq_of_lt (show 2*r+b < B by omega),if_neg c]
    refine ⟨?_,rfl⟩
    rw[decide_eq_decide]; omega
theorem zFN (r:Nat) (x:Bool) (j:Nat):(2*r+x.toNat).testBit j=if j=0 then x else r.testBit (j - 1):=by
  have h:x.toNat < 2 ^ 1:=by cases x<;>decide
  have:=Nat.testBit_two_pow_mul_add r (i:=1) h j
  rw[show 2 ^ 1=2 from rfl]at this
  rw[this]
  by_cases c:j=0
  · subst c; cases x<;>rfl
  · rw[if_neg (by omega),if_neg c]
theorem zCo (q:Vector UInt64 4) (w:Nat) (x:UInt64) (hw:w < 4) (j:Nat) (hj:j < 256):(uV (Vector.setIfInBounds q w x)).testBit j=if j / 64=w then x.toNat.testBit (j % 64) else(uV q).testBit j:=by
  rw[zue _ _ hj,zqZ _ _ _ _ hw]
  by_cases c:w=j / 64
  · rw[if_pos c,if_pos c.symm]
  · rw[if_neg c,if_neg (fun e=>c e.symm),zue _ _ hj]
theorem zFa (j:Nat):(1:UInt64).toNat.testBit j=decide (j=0):=by
  rw[show (1:UInt64).toNat=2 ^ 0 from rfl,Nat.testBit_two_pow,decide_eq_decide]
  omega
theorem zHZ (r:Nat):Vector.setIfInBounds (uW (r*2 ^ 1)) 0 (List.getD (Vector.toList (uW (r*2 ^ 1))) 0 0 ||| 1)=uW (2*r+1):=by
  refine zkx fun j hj=>?_
  have h:=zFN r true j
  have h0:=zFN r false j
  rw[Bool.toNat_true]at h
  rw[Bool.toNat_false,Nat.add_zero]at h0
  have e:r*2 ^ 1=2*r:=by omega
  rw[zCo _ _ _ (by omega) _ hj,zBO,zfV,zFa,zpg,zpg,decide_eq_true hj,Bool.true_and,Bool.true_and,e,h]
  by_cases c:j / 64=0
  · rw[if_pos c,zzm _ _ _ (by omega) (by omega),zpg,decide_eq_true (by omega),Bool.true_and,show 64*0+j % 64=j by omega,h0]
    by_cases d:j=0
    · rw[if_pos d,if_pos d,decide_eq_true (by omega)]; rfl
    · rw[if_neg d,if_neg d,decide_eq_false (by omega),Bool.or_false]
  · rw[if_neg c,h0,if_neg (by omega),if_neg (by omega)]
theorem zIa (q:Vector UInt64 4) (n j:Nat) (hn:n < 256) (hj:j < 256):(uV (Vector.setIfInBounds q (n / 64) (List.getD (Vector.toList q) (n / 64) 0 ||| zah 1 (n % 64)))).testBit j=((uV q).testBit j || decide (j=n)):=by
  rw[zCo _ _ _ (by omega) _ hj,zBO,zfV,zvj _ _ _ (by omega),zFa]
  by_cases c:j / 64=n / 64
  · rw[if_pos c,←c,←zue _ _ hj,decide_eq_true (p:=j % 64 < 64) (by omega),Bool.true_and]
    congr 1
    by_cases d:j=n
    · rw[decide_eq_true d,decide_eq_true (by omega),decide_eq_true (by omega)]; rfl
    · rw[decide_eq_false d]
      by_cases e:n % 64≤j % 64
      · rw[decide_eq_false (p:=j % 64 - n % 64=0) (by omega),Bool.and_false]
      · rw[decide_eq_false e,Bool.false_and]
  · rw[if_neg c,decide_eq_false (by omega),Bool.or_false]
theorem zHs (r:Vector UInt64 4):(uV r).testBit 255=decide (57896044618658097711785492504343953926634992332820282019728792003956564819968≤uV r):=by
  have h:=znt r
  rw[Nat.testBit_eq_decide_div_mod_eq,decide_eq_decide,show 2 ^ 255=57896044618658097711785492504343953926634992332820282019728792003956564819968 from by decide]
  omega
theorem zH2 {Y B:Nat} {b:Vector UInt64 4} (hb:uV b=B) (h:B≤Y) (h2:Y - B < B):uV (subV (uW Y) b)=Y - B:=by
  have:=znt b
  rw[zB9,zhJ,hb]
  omega
theorem zxb (a b r:Vector UInt64 4) (i:Nat) (hB:0 < uV b) (hr:uV r=uV a / 2 ^ (i+1) % uV b) {α:Type} (T:Vector UInt64 4→α) (U:Vector UInt64 4→α) (x:Bool) (hx:x=(uV a).testBit i) (Y:Vector UInt64 4) (hY:Y=uW (2*uV r+x.toNat)) :
    ∃ r',uV r'=uV a / 2 ^ i % uV b∧(bif eqb (Nat.testBit (uV r) 255) false then(bif bif false then true else !(subB Y b)then T (subV Y b)else U Y)else T (subV Y b))=if (uV a / uV b).testBit i then T r' else U r':=by
  have hs:=zHl hB x hx
  rw[←hr]at hs
  have hl:uV r < uV b:=by rw[hr]; exact Nat.mod_lt _ hB
  have hb:=znt b
  have h1:x.toNat≤1:=by cases x<;>simp
  rw[zHs]
  by_cases c:uV b≤2*uV r+x.toNat
  · rw[if_pos c,decide_eq_true c]at hs
    refine ⟨subV Y b,?_,?_⟩
    · rw[hY,zH2 rfl c (by omega)]
      exact hs.2.symm
    · rw[if_pos hs.1]
      by_cases d:57896044618658097711785492504343953926634992332820282019728792003956564819968≤uV r
      · rw[decide_eq_true d]; rfl
      · rw[decide_eq_false d]
        have:subB Y b=false:=by
          rw[zrp]
          rw[hY,zhJ,Nat.mod_eq_of_lt (by omega)]
          exact decide_eq_false (by omega)
        rw[this]; rfl
  · rw[if_neg c,decide_eq_false c]at hs
    have e:uV Y=2*uV r+x.toNat:=by rw[hY,zhJ,Nat.mod_eq_of_lt (by omega)]
    refine ⟨Y,?_,?_⟩
    · rw[e]; exact hs.2.symm
    · rw[hs.1,if_neg (by decide),decide_eq_false (by omega)]
      have:subB Y b=true:=by
        rw[zrp]
        rw[e]
        exact decide_eq_true (by omega)
      rw[this]; rfl
end Go.Proofs.YtnolgfdjcipmmaaDoor.M
