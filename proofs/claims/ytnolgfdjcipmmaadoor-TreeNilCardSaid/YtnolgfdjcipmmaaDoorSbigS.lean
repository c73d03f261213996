/- Part of the proofs: what functions of the program do: plain functions, and the walks that show it. No condition. -/
import Derived.KernelRfl
import Derived.Test.YtnolgfdjcipmmaaDoorLe
import Derived.Test.YtnolgfdjcipmmaaDoorSwords
set_option linter.unusedVariables false
set_option linter.unusedSimpArgs false
set_option autoImplicit false
namespace Go.Proofs.YtnolgfdjcipmmaaDoor.M
open Go
def gW (a:Vector UInt64 4) (i:Nat):Nat:=(List.getD (Vector.toList a) i 0).toNat
def uV (a:Vector UInt64 4):Nat:=gW a 0+18446744073709551616*(gW a 1+18446744073709551616*(gW a 2+18446744073709551616*gW a 3))
def uW (n:Nat):Vector UInt64 4:=#v[UInt64.ofNat n,UInt64.ofNat (n / 18446744073709551616),UInt64.ofNat (n / 18446744073709551616 / 18446744073709551616),UInt64.ofNat (n / 18446744073709551616 / 18446744073709551616 / 18446744073709551616)]
theorem zh2 (a:Vector UInt64 4) (i:Nat):gW a i < 18446744073709551616:=(List.getD (Vector.toList a) i 0).toNat_lt
theorem znt (a:Vector UInt64 4):uV a < 115792089237316195423570985008687907853269984665640564039457584007913129639936:=by
  have h0:=zh2 a 0
  have h1:=zh2 a 1
  have h2:=zh2 a 2
  have h3:=zh2 a 3
  unfold uV
  omega
theorem zkG (n q:Nat) (h:q < 4):gW (uW n) q=n / 18446744073709551616 ^ q % 18446744073709551616:=by
  have:q=0∨q=1∨q=2∨q=3:=by omega
  rcases this with h | h | h | h<;>subst h<;>simp[gW,uW,UInt64.toNat_ofNat']<;>omega
theorem zhJ (n:Nat):uV (uW n)=n % 115792089237316195423570985008687907853269984665640564039457584007913129639936:=by
  unfold uV
  rw[zkG _ _ (by omega),zkG _ _ (by omega),zkG _ _ (by omega),zkG _ _ (by omega)]
  simp only[Nat.pow_zero,Nat.div_one,Nat.pow_one,show 18446744073709551616 ^ 2=18446744073709551616*18446744073709551616 from rfl,show 18446744073709551616 ^ 3=18446744073709551616*18446744073709551616*18446744073709551616 from rfl,←Nat.div_div_eq_div_mul]
  omega
theorem zGa {a b:Vector UInt64 4} (h:∀ i,i < 4→gW a i=gW b i):a=b:=by
  refine vext 0 fun j hj=>?_
  exact UInt64.toNat_inj.1 (h j hj)
theorem zBl (a:Vector UInt64 4):uW (uV a)=a:=by
  have h0:=zh2 a 0
  have h1:=zh2 a 1
  have h2:=zh2 a 2
  have h3:=zh2 a 3
  refine zGa fun i hi=>?_
  rw[zkG _ _ hi]
  have:i=0∨i=1∨i=2∨i=3:=by omega
  unfold uV
  rcases this with h | h | h | h<;>subst h<;>simp only[Nat.pow_zero,Nat.div_one,Nat.pow_one,show 18446744073709551616 ^ 2=18446744073709551616*18446744073709551616 from rfl,show 18446744073709551616 ^ 3=18446744073709551616*18446744073709551616*18446744073709551616 from rfl,←Nat.div_div_eq_div_mul]<;>omega
theorem zuw {a b:Vector UInt64 4} (h:uV a=uV b):a=b:=by rw[←zBl a,h,zBl]
theorem zue (a:Vector UInt64 4) (i:Nat) (h:i < 256):(uV a).testBit i=(gW a (i / 64)).testBit (i % 64):=by
  have h0:=zh2 a 0
  have h1:=zh2 a 1
  have h2:=zh2 a 2
  have h3:=zh2 a 3
  have e:∀ x r j:Nat,x < 18446744073709551616→(x+18446744073709551616*r).testBit j=if j < 64 then x.testBit j else r.testBit (j - 64):=by
    intro x r j hx
    have:=Nat.testBit_two_pow_mul_add r (i:=64) hx j
    rw[Nat.add_comm]
    exact this
  unfold uV
  rw[e _ _ _ h0]
  by_cases c0:i < 64
  · rw[if_pos c0,show i / 64=0 by omega,show i % 64=i by omega]
  · rw[if_neg c0,e _ _ _ h1]
    by_cases c1:i - 64 < 64
    · rw[if_pos c1,show i / 64=1 by omega,show i % 64=i - 64 by omega]
    · rw[if_neg c1,e _ _ _ h2]
      by_cases c2:i - 64 - 64 < 64
      · rw[if_pos c2,show i / 64=2 by omega,show i % 64=i - 64 - 64 by omega]
      · rw[if_neg c2,show i / 64=3 by omega,show i % 64=i - 64 - 64 - 64 by omega]
theorem zo7:2 ^ 256=115792089237316195423570985008687907853269984665640564039457584007913129639936:=by decide
def addS (a b:Vector UInt64 4):Vector UInt64 4 × Bool:=(uW (uV a+uV b),decide (115792089237316195423570985008687907853269984665640564039457584007913129639936≤uV a+uV b))
def subS (a b:Vector UInt64 4):Vector UInt64 4 × Bool:=(uW (uV a+115792089237316195423570985008687907853269984665640564039457584007913129639936 - uV b),decide (uV a < uV b))
theorem zFJ (x i:Nat):x / 2 ^ i=2*(x / 2 ^ (i+1))+(x.testBit i).toNat:=by
  rw[Nat.testBit_eq_decide_div_mod_eq,Nat.pow_succ,←Nat.div_div_eq_div_mul]
  generalize x / 2 ^ i=m
  by_cases h:m % 2=1
  · rw[decide_eq_true h]; simp; omega
  · rw[decide_eq_false h]; simp; omega
end Go.Proofs.YtnolgfdjcipmmaaDoor.M
namespace Go.Proofs.YtnolgfdjcipmmaaDoor.M
open Go
theorem Ev.inv {R σ:Type} {H:Nat→Int→σ→Option R} {n:Nat} {r:R} (Inv:Nat→σ→Prop)
    (step:∀ (i:Nat) (s:σ),i < n→Inv i s→(∀ s',Inv (i+1) s'→Ev (fun k=>H k ((i:Int)+1) s') r)→Ev (fun k=>H k (i:Int) s) r)
    (done:∀ s,Inv n s→Ev (fun k=>H k (n:Int) s) r):∀ (m i:Nat) (s:σ),i+m=n→Inv i s→Ev (fun k=>H k (i:Int) s) r
  | 0,i,s,hi,hv=>by
    obtain rfl:i=n:=by omega
    exact done s hv
  | m+1,i,s,hi,hv=>by
    refine step i s (by omega) hv fun s' hv'=>?_
    have:=Ev.inv Inv step done m (i+1) s' (by omega) hv'
    simpa using this
theorem Ev.dwn {R σ:Type} {H:Nat→Int→σ→Option R} {n:Nat} {r:R} (Inv:Nat→σ→Prop)
    (step:∀ (i:Nat) (s:σ),i < n→Inv (i+1) s→(∀ s',Inv i s'→Ev (fun k=>H k ((i:Int) - 1) s') r)→Ev (fun k=>H k (i:Int) s) r)
    (done:∀ s,Inv 0 s→Ev (fun k=>H k (-1) s) r):∀ (i:Nat) (s:σ),i≤n→Inv i s→Ev (fun k=>H k ((i:Int) - 1) s) r
  | 0,s,_,hv=>done s hv
  | i+1,s,hi,hv=>by
    rw[show ((i+1:Nat):Int) - 1=(i:Int) by omega]
    exact step i s (by omega) hv fun s' hv'=>Ev.dwn Inv step done i s' (by omega) hv'
theorem Ev.done0 {R:Type} {f:Nat→Option R} {r:R} (h:∀ k,f k=some r):Ev f r:=⟨0,h 0⟩
theorem zpg (n i:Nat):(uV (uW n)).testBit i=(decide (i < 256) && n.testBit i):=by
  rw[zhJ,←zo7,Nat.testBit_mod_two_pow]
theorem zrc (a:Vector UInt64 4) (i:Nat) (h:256≤i):(uV a).testBit i=false:=by
  rw[←zBl a,zpg,decide_eq_false (by omega),Bool.false_and]
theorem zzm (a:Vector UInt64 4) (j t:Nat) (hj:j < 4) (ht:t < 64):(gW a j).testBit t=(uV a).testBit (64*j+t):=by
  rw[zue a _ (by omega),show (64*j+t) / 64=j by omega,show (64*j+t) % 64=t by omega]
theorem zuO (x:UInt64) (t:Nat) (h:64≤t):x.toNat.testBit t=false:=by
  refine Nat.testBit_lt_two_pow (Nat.lt_of_lt_of_le x.toNat_lt ?_)
  exact Nat.pow_le_pow_right (by decide) h
theorem zkx {a b:Vector UInt64 4} (h:∀ i,i < 256→(uV a).testBit i=(uV b).testBit i):a=b:=by
  apply zuw
  apply Nat.eq_of_testBit_eq
  intro i
  by_cases hi:i < 256
  · exact h i hi
  · rw[zrc _ _ (by omega),zrc _ _ (by omega)]
theorem zvj (x:UInt64) (c t:Nat) (hc:c≤64):(zah x c).toNat.testBit t=(decide (t < 64) && (decide (c≤t) && x.toNat.testBit (t - c))):=by
  unfold zah
  rw[UInt64.toNat_ofNat',Nat.testBit_mod_two_pow,Nat.min_eq_left hc,Nat.testBit_mul_two_pow]
theorem zwD (x:UInt64) (c t:Nat) (hc:c≤64):(zaa x c).toNat.testBit t=x.toNat.testBit (t+c):=by
  unfold zaa
  rw[UInt64.toNat_ofNat',Nat.testBit_mod_two_pow,Nat.min_eq_left hc,Nat.testBit_div_two_pow]
  by_cases ht:t < 64
  · rw[decide_eq_true ht,Bool.true_and]
  · rw[decide_eq_false ht,Bool.false_and,zuO _ _ (by omega)]
theorem zBO (x y:UInt64) (t:Nat):(x ||| y).toNat.testBit t=(x.toNat.testBit t || y.toNat.testBit t):=by
  rw[UInt64.toNat_or,Nat.testBit_or]
theorem zqZ (a:Vector UInt64 4) (i j:Nat) (x:UInt64) (h:i < 4):gW (Vector.setIfInBounds a i x) j=if i=j then x.toNat else gW a j:=by
  unfold gW
  rw[zaC _ _ _ _ _ h]
  split<;>rfl
theorem zpB (j:Nat):gW (Vector.replicate 4 0) j=0:=by
  unfold gW
  rw[zBV]
  rfl
theorem zfV (a:Vector UInt64 4) (j:Nat):(List.getD (Vector.toList a) j 0).toNat=gW a j:=rfl
theorem zsc:uV (Vector.replicate 4 0)=0:=by
  unfold uV
  rw[zpB,zpB,zpB,zpB]
theorem zhw {a:Nat} (h:a < 9223372036854775808):w64 ((a:Nat):Int)=((a:Nat):Int):=zao (by omega) (by omega)
theorem zFT {α:Type} {n:Nat} (v:Vector α n) (i:Nat) (x y:α):Vector.setIfInBounds (Vector.setIfInBounds v i x) i y=Vector.setIfInBounds v i y:=by
  apply Vector.ext
  intro j hj
  simp[Vector.getElem_setIfInBounds]
theorem zry {n:Nat} (v:Vector UInt64 n) (i:Nat) (x:UInt64) (h:i < n):List.getD (Vector.toList (Vector.setIfInBounds v i x)) i 0=x:=by
  rw[zaC _ _ _ _ _ h,if_pos rfl]
noncomputable def addV (a b:Vector UInt64 4):Vector UInt64 4:=lock (uW (uV a+uV b))
theorem zBv (a b:Vector UInt64 4):addV a b=(uW (uV a+uV b)):=za1 _
noncomputable def addB (a b:Vector UInt64 4):Bool:=lock (!decide (uV a+uV b < 115792089237316195423570985008687907853269984665640564039457584007913129639936))
theorem zFg (a b:Vector UInt64 4):addB a b=(!decide (uV a+uV b < 115792089237316195423570985008687907853269984665640564039457584007913129639936)):=za1 _
noncomputable def subV (a b:Vector UInt64 4):Vector UInt64 4:=lock (uW (uV a+115792089237316195423570985008687907853269984665640564039457584007913129639936 - uV b))
theorem zEw (a b:Vector UInt64 4):subV a b=(uW (uV a+115792089237316195423570985008687907853269984665640564039457584007913129639936 - uV b)):=za1 _
noncomputable def subB (a b:Vector UInt64 4):Bool:=lock (decide (uV a < uV b))
theorem zrp (a b:Vector UInt64 4):subB a b=(decide (uV a < uV b)):=za1 _
noncomputable def ovQ (a b:Vector UInt64 4):Vector UInt64 4:=lock (uW (uV a / uV b))
theorem zEW (a b:Vector UInt64 4):ovQ a b=(uW (uV a / uV b)):=za1 _
noncomputable def ovR (a b:Vector UInt64 4):Vector UInt64 4:=lock (uW (if uV b=0 then 0 else uV a % uV b))
theorem zG2 (a b:Vector UInt64 4):ovR a b=(uW (if uV b=0 then 0 else uV a % uV b)):=za1 _
noncomputable def ovE (b:Vector UInt64 4):Int:=lock (if uV b=0 then 2 else 0)
theorem zGV (b:Vector UInt64 4):ovE b=(if uV b=0 then 2 else 0):=za1 _
noncomputable def divR (a:Vector UInt64 4) (n:UInt64):UInt64:=lock (if n.toNat=0 then 0 else UInt64.ofNat (uV a % n.toNat))
theorem zBt (a:Vector UInt64 4) (n:UInt64):divR a n=(if n.toNat=0 then 0 else UInt64.ofNat (uV a % n.toNat)):=za1 _
noncomputable def divE (n:UInt64):Int:=lock (if n.toNat=0 then 2 else 0)
theorem zEq (n:UInt64):divE n=(if n.toNat=0 then 2 else 0):=za1 _
noncomputable def mulC (a:Vector UInt64 4) (n:UInt64):UInt64:=lock (UInt64.ofNat (uV a*n.toNat / 115792089237316195423570985008687907853269984665640564039457584007913129639936))
theorem zFx (a:Vector UInt64 4) (n:UInt64):mulC a n=(UInt64.ofNat (uV a*n.toNat / 115792089237316195423570985008687907853269984665640564039457584007913129639936)):=za1 _
noncomputable def lenN (n:Nat):Nat:=lock (if n=0 then 0 else Nat.log2 n+1)
theorem zBA (n:Nat):lenN n=(if n=0 then 0 else Nat.log2 n+1):=za1 _
theorem zG9 (a b:Vector UInt64 4):addS a b=(addV a b,addB a b):=by
  rw[zBv,zFg]
  unfold addS
  refine Prod.ext rfl ?_
  show decide _=!decide _
  rw[←decide_not,decide_eq_decide]
  omega
theorem zB9 (a b:Vector UInt64 4):uV (subV a b)=(uV a+115792089237316195423570985008687907853269984665640564039457584007913129639936 - uV b) % 115792089237316195423570985008687907853269984665640564039457584007913129639936:=by rw[zEw,zhJ]
theorem zGj (a b:Vector UInt64 4):uV (addV a b)=(uV a+uV b) % 115792089237316195423570985008687907853269984665640564039457584007913129639936:=by rw[zBv,zhJ]
theorem zvW (b:Vector UInt64 4):(Vector.toList b=Vector.toList (Vector.replicate 4 (0:UInt64)))↔uV b=0:=by
  constructor
  · intro h
    rw[Vector.toList_inj.1 h,zsc]
  · intro h
    have:b=Vector.replicate 4 0:=zuw (by rw[h,zsc])
    rw[this]
theorem zzf:lenN 0=0:=by rw[zBA]; rfl
theorem zcJ {n i:Nat}:lenN n≤i↔n < 2 ^ i:=by
  rw[zBA]
  by_cases h:n=0
  · rw[if_pos h,h]
    simp[Nat.two_pow_pos]
  · rw[if_neg h,Nat.succ_le_iff,Nat.log2_lt h]
theorem zyw {n i:Nat} (h:∀ j,n < 2 ^ j↔i≤j):lenN n=i:=by
  have a:=zcJ.2 ((h i).2 (Nat.le_refl i))
  have b:=(h (lenN n)).1 (zcJ.1 (Nat.le_refl _))
  omega
theorem zuJ {n:Nat} (k:Nat) (h:n / 2 ^ k≠0):lenN n=lenN (n / 2 ^ k)+k:=by
  have hk:2 ^ k≤n:=by
    by_cases c:2 ^ k≤n
    · exact c
    · exact absurd (Nat.div_eq_of_lt (by omega)) h
  refine zyw fun j=>?_
  by_cases c:k≤j
  · have e:lenN (n / 2 ^ k)+k≤j↔lenN (n / 2 ^ k)≤j - k:=by omega
    rw[e,zcJ,Nat.div_lt_iff_lt_mul (Nat.two_pow_pos k),←Nat.pow_add,show j - k+k=j by omega]
  · constructor
    · intro g
      have:2 ^ j≤2 ^ k:=Nat.pow_le_pow_right (by decide) (by omega)
      omega
    · intro g; omega
theorem zfG (x:UInt64) (c:Nat) (hc:c≤64):(zaa x c).toNat=x.toNat / 2 ^ c:=by
  unfold zaa
  rw[UInt64.toNat_ofNat',Nat.min_eq_left hc]
  exact Nat.mod_eq_of_lt (Nat.lt_of_le_of_lt (Nat.div_le_self _ _) x.toNat_lt)
theorem zyU (x:UInt64):lenN x.toNat≤64:=zcJ.2 x.toNat_lt
theorem zGY (a:Vector UInt64 4) (i:Nat) (hi:i < 4):gW a i=uV a / 18446744073709551616 ^ i % 18446744073709551616:=by
  have:=zkG (uV a) i hi
  rwa [zBl]at this
end Go.Proofs.YtnolgfdjcipmmaaDoor.M
namespace Go.Proofs.YtnolgfdjcipmmaaDoor.M
open Go
end Go.Proofs.YtnolgfdjcipmmaaDoor.M
