/- Part of the proofs: what functions of the program do: plain functions, and the walks that show it. No condition. -/
import Derived.KernelRfl
import Derived.Test.YtnolgfdjcipmmaaDoorLe
import Derived.Test.YtnolgfdjcipmmaaDoorSwords
set_option linter.unusedVariables false
set_option linter.unusedSimpArgs false
set_option autoImplicit false
namespace Go.Proofs.YtnolgfdjcipmmaaDoor.M
open Go
def gW (a:Vector UInt64 4) (i:Nat):Nat:=(List.getD (Vector.toList a) i 0).toNat
def uV (a:Vector UInt64 4):Nat:=gW a 0+18446744073709551616*(gW a 1+18446744073709551616*(gW a 2+18446744073709551616*gW a 3))
def uW (n:Nat):Vector UInt64 4:=#v[UInt64.ofNat n,UInt64.ofNat (n / 18446744073709551616),UInt64.ofNat (n / 18446744073709551616 / 18446744073709551616),UInt64.ofNat (n / 18446744073709551616 / 18446744073709551616 / 18446744073709551616)]
theorem zje (a:Vector UInt64 4) (i:Nat):gW a i < 18446744073709551616:=(List.getD (Vector.toList a) i 0).toNat_lt
theorem zgl (a:Vector UInt64 4):uV a < 115792089237316195423570985008687907853269984665640564039457584007913129639936:=by
 have h0:=zje a 0
 have h1:=zje a 1
 have h2:=zje a 2
 have h3:=zje a 3
 unfold uV
 omega
theorem zii (n q:Nat) (h:q < 4):gW (uW n) q=n / 18446744073709551616 ^ q % 18446744073709551616:=by
 have:q=0∨q=1∨q=2∨q=3:=by omega
 rcases this with h | h | h | h<;>subst h<;>simp[gW,uW,UInt64.toNat_ofNat']<;>omega
theorem zfy (n:Nat):uV (uW n)=n % 115792089237316195423570985008687907853269984665640564039457584007913129639936:=by
 unfold uV
 rw[zii _ _ (by omega),zii _ _ (by omega),zii _ _ (by omega),zii _ _ (by omega)]
 simp only[Nat.pow_zero,Nat.div_one,Nat.pow_one,show 18446744073709551616 ^ 2=18446744073709551616*18446744073709551616 from rfl,show 18446744073709551616 ^ 3=18446744073709551616*18446744073709551616*18446744073709551616 from rfl,←Nat.div_div_eq_div_mul]
 omega
theorem zEz {a b:Vector UInt64 4} (h:∀ i,i < 4→gW a i=gW b i):a=b:=by
 refine vext 0 fun j hj=>?_
 exact UInt64.toNat_inj.1 (h j hj)
theorem zBZ (a:Vector UInt64 4):uW (uV a)=a:=by
 have h0:=zje a 0
 have h1:=zje a 1
 have h2:=zje a 2
 have h3:=zje a 3
 refine zEz fun i hi=>?_
 rw[zii _ _ hi]
 have:i=0∨i=1∨i=2∨i=3:=by omega
 unfold uV
 rcases this with h | h | h | h<;>subst h<;>simp only[Nat.pow_zero,Nat.div_one,Nat.pow_one,show 18446744073709551616 ^ 2=18446744073709551616*18446744073709551616 from rfl,show 18446744073709551616 ^ 3=18446744073709551616*18446744073709551616*18446744073709551616 from rfl,←Nat.div_div_eq_div_mul]<;>omega
theorem zpT {a b:Vector UInt64 4} (h:uV a=uV b):a=b:=by rw[←zBZ a,h,zBZ]
def bL:List Bool→Nat
 | []=>0
 | b :: r=>b.toNat+2*bL r
def bV (l:Vector Bool 256):Nat:=bL (Vector.toList l)
def zbp (n:Nat):Vector Bool 256:=Vector.ofFn fun i:Fin 256=>n.testBit i.val
theorem zJt:∀ l:List Bool,bL l < 2 ^ l.length
 | []=>by decide
 | b :: r=>by
  have:=zJt r
  rw[bL,List.length_cons,Nat.pow_succ]
  cases b<;>simp<;>omega
theorem zIq:∀ (l:List Bool) (i:Nat),(bL l).testBit i=l.getD i false
 | [],i=>by simp[bL]
 | b :: r,0=>by
  rw[bL]
  simp only[Nat.testBit_zero,List.getD_cons_zero]
  cases b<;>simp<;>omega
 | b :: r,i+1=>by
  rw[bL,List.getD_cons_succ,←zIq r i,Nat.testBit_succ]
  congr 1
  cases b<;>simp<;>omega
theorem zIS (l:Vector Bool 256):bV l < 2 ^ 256:=by
 have:=zJt (Vector.toList l)
 rwa [Vector.length_toList]at this
theorem zj5 (l:Vector Bool 256) (i:Nat):(bV l).testBit i=List.getD (Vector.toList l) i false:=zIq _ _
theorem zih (n i:Nat) (h:i < 256):List.getD (Vector.toList (zbp n)) i false=n.testBit i:=zkJ (fun i:Fin 256=>n.testBit i.val) i false h
theorem zHZ (l:Vector Bool 256):zbp (bV l)=l:=vext false fun j hj=>by rw[zih _ _ hj,zj5]
theorem zjM (n:Nat):bV (zbp n)=n % 2 ^ 256:=by
 apply Nat.eq_of_testBit_eq
 intro i
 rw[zj5,Nat.testBit_mod_two_pow]
 by_cases h:i < 256
 ·rw[zih _ _ h,decide_eq_true h,Bool.true_and]
 ·rw[decide_eq_false h,Bool.false_and]
  simp[List.getD,h]
theorem zrz (a:Vector UInt64 4) (i:Nat) (h:i < 256):(uV a).testBit i=(gW a (i / 64)).testBit (i % 64):=by
 have h0:=zje a 0
 have h1:=zje a 1
 have h2:=zje a 2
 have h3:=zje a 3
 have e:∀ x r j:Nat,x < 18446744073709551616→(x+18446744073709551616*r).testBit j=if j < 64 then x.testBit j else r.testBit (j - 64):=by
  intro x r j hx
  have:=Nat.testBit_two_pow_mul_add r (i:=64) hx j
  rw[Nat.add_comm]
  exact this
 unfold uV
 rw[e _ _ _ h0]
 by_cases c0:i < 64
 ·rw[if_pos c0,show i / 64=0 by omega,show i % 64=i by omega]
 ·rw[if_neg c0,e _ _ _ h1]
  by_cases c1:i - 64 < 64
  ·rw[if_pos c1,show i / 64=1 by omega,show i % 64=i - 64 by omega]
  ·rw[if_neg c1,e _ _ _ h2]
   by_cases c2:i - 64 - 64 < 64
   ·rw[if_pos c2,show i / 64=2 by omega,show i % 64=i - 64 - 64 by omega]
   ·rw[if_neg c2,show i / 64=3 by omega,show i % 64=i - 64 - 64 - 64 by omega]
def bNot (x:Vector Bool 256):Vector Bool 256:=Vector.ofFn fun i:Fin 256=>!(List.getD (Vector.toList x) i.val false)
theorem zGZ (n:Nat):uW (n % 115792089237316195423570985008687907853269984665640564039457584007913129639936)=uW n:=by
 apply zpT
 rw[zfy,zfy,Nat.mod_mod]
theorem zdD:2 ^ 256=115792089237316195423570985008687907853269984665640564039457584007913129639936:=by decide
def addS (a b:Vector UInt64 4):Vector UInt64 4 × Bool:=(uW (uV a+uV b),decide (115792089237316195423570985008687907853269984665640564039457584007913129639936≤uV a+uV b))
def subS (a b:Vector UInt64 4):Vector UInt64 4 × Bool:=(uW (uV a+115792089237316195423570985008687907853269984665640564039457584007913129639936 - uV b),decide (uV a < uV b))
def sumS (x y:Vector Bool 256) (c:Bool):Vector Bool 256 × Bool:=(zbp (bV x+bV y+c.toNat),decide (115792089237316195423570985008687907853269984665640564039457584007913129639936≤bV x+bV y+c.toNat))
theorem zGI (x i:Nat):(x.testBit i).toNat=x / 2 ^ i % 2:=by
 rw[Nat.testBit_eq_decide_div_mod_eq]
 generalize x / 2 ^ i=m
 by_cases h:m % 2=1
 ·rw[decide_eq_true h,h]; rfl
 ·rw[decide_eq_false h]; simp; omega
theorem zDY (x i:Nat):x % 2 ^ (i+1)=x % 2 ^ i+2 ^ i*(x.testBit i).toNat:=by
 rw[zGI,Nat.pow_succ,Nat.mod_mul]
theorem zsR (x i:Nat):x / 2 ^ i=2*(x / 2 ^ (i+1))+(x.testBit i).toNat:=by
 rw[Nat.testBit_eq_decide_div_mod_eq,Nat.pow_succ,←Nat.div_div_eq_div_mul]
 generalize x / 2 ^ i=m
 by_cases h:m % 2=1
 ·rw[decide_eq_true h]; simp; omega
 ·rw[decide_eq_false h]; simp; omega
theorem zIb (x:Vector Bool 256):bV (bNot x)+bV x=115792089237316195423570985008687907853269984665640564039457584007913129639935:=by
 have gen:∀ l:List Bool,bL (l.map (!·))+bL l+1=2 ^ l.length:=by
  intro l
  induction l with
  | nil=>rfl
  | cons b r ih =>
   rw[List.map_cons,bL,bL,List.length_cons,Nat.pow_succ,←ih]
   cases b<;>simp<;>omega
 have e:Vector.toList (bNot x)=(Vector.toList x).map (!·):=by
  apply List.ext_getElem
  ·simp
  ·intro i h1 h2
   have:i < 256:=by simpa using h1
   simp[bNot,List.getD,this]
 have:=gen (Vector.toList x)
 rw[Vector.length_toList,zdD]at this
 unfold bV
 rw[e]
 omega
theorem zH2 {X Y C i:Nat} (hC:C≤1) (c:Bool) (hc:c=decide (2 ^ i≤X % 2 ^ i+Y % 2 ^ i+C)) :
  (X+Y+C).testBit i=decide ((c.toNat+(X.testBit i).toNat+(Y.testBit i).toNat) % 2=1)∧decide (2 ^ (i+1)≤X % 2 ^ (i+1)+Y % 2 ^ (i+1)+C)=decide (2≤c.toNat+(X.testBit i).toNat+(Y.testBit i).toNat):=by
 have hx:=zDY X i
 have hy:=zDY Y i
 have hX:=Nat.div_add_mod X (2 ^ (i+1))
 have hY:=Nat.div_add_mod Y (2 ^ (i+1))
 have hp:0 < 2 ^ i:=Nat.two_pow_pos i
 have lx:=Nat.mod_lt X hp
 have ly:=Nat.mod_lt Y hp
 have e2:2 ^ (i+1)=2 ^ i*2:=Nat.pow_succ _ _
 rw[hx]at hX
 rw[hy]at hY
 rw[hx,hy]
 rw[e2]at hX hY ⊢
 generalize X / (2 ^ i*2)=u at hX
 generalize Y / (2 ^ i*2)=v at hY
 generalize (X.testBit i).toNat=bx at *
 generalize (Y.testBit i).toNat=bY at *
 generalize X % 2 ^ i=xm at *
 generalize Y % 2 ^ i=ym at *
 have hb:c.toNat=(xm+ym+C) / 2 ^ i:=by
  rw[hc]
  by_cases h:2 ^ i≤xm+ym+C
  ·rw[decide_eq_true h,Nat.div_eq_of_lt_le (k:=1)]
   ·rfl
   ·omega
   ·omega
  ·rw[decide_eq_false h,Nat.div_eq_of_lt (by omega)]; rfl
 have hs:=Nat.div_add_mod (xm+ym+C) (2 ^ i)
 have hr:=Nat.mod_lt (xm+ym+C) hp
 rw[←hb]at hs
 generalize (xm+ym+C) % 2 ^ i=r at *
 rw[Nat.testBit_eq_decide_div_mod_eq]
 generalize 2 ^ i=p at *
 generalize c.toNat=cn at *
 constructor
 ·have e:X+Y+C=r+p*(cn+bx+bY+2*(u+v)):=by
   rw[←hX,←hY]
   grind
  rw[e,Nat.add_mul_div_left _ _ hp,Nat.div_eq_of_lt hr,Nat.zero_add]
  congr 1
  rw[eq_iff_iff]
  omega
 ·rw[decide_eq_decide]
  have e:xm+p*bx+(ym+p*bY)+C=r+p*(cn+bx+bY):=by grind
  rw[e]
  constructor
  ·intro h
   by_cases h2:2≤cn+bx+bY
   ·exact h2
   ·have:p*(cn+bx+bY)≤p*1:=Nat.mul_le_mul_left _ (by omega)
    omega
  ·intro h
   have:p*2≤p*(cn+bx+bY):=Nat.mul_le_mul_left _ h
   omega
end Go.Proofs.YtnolgfdjcipmmaaDoor.M
namespace Go.Proofs.YtnolgfdjcipmmaaDoor.M
open Go
theorem Ev.inv {R σ:Type} {H:Nat→Int→σ→Option R} {n:Nat} {r:R} (Inv:Nat→σ→Prop)
  (step:∀ (i:Nat) (s:σ),i < n→Inv i s→(∀ s',Inv (i+1) s'→Ev (fun k=>H k ((i:Int)+1) s') r)→Ev (fun k=>H k (i:Int) s) r)
  (done:∀ s,Inv n s→Ev (fun k=>H k (n:Int) s) r):∀ (m i:Nat) (s:σ),i+m=n→Inv i s→Ev (fun k=>H k (i:Int) s) r
 | 0,i,s,hi,hv=>by
  obtain rfl:i=n:=by omega
  exact done s hv
 | m+1,i,s,hi,hv=>by
  refine step i s (by omega) hv fun s' hv'=>?_
  have:=Ev.inv Inv step done m (i+1) s' (by omega) hv'
  simpa using this
theorem Ev.dwn {R σ:Type} {H:Nat→Int→σ→Option R} {n:Nat} {r:R} (Inv:Nat→σ→Prop)
  (step:∀ (i:Nat) (s:σ),i < n→Inv (i+1) s→(∀ s',Inv i s'→Ev (fun k=>H k ((i:Int) - 1) s') r)→Ev (fun k=>H k (i:Int) s) r)
  (done:∀ s,Inv 0 s→Ev (fun k=>H k (-1) s) r):∀ (i:Nat) (s:σ),i≤n→Inv i s→Ev (fun k=>H k ((i:Int) - 1) s) r
 | 0,s,_,hv=>done s hv
 | i+1,s,hi,hv=>by
  rw[show ((i+1:Nat):Int) - 1=(i:Int) by omega]
  exact step i s (by omega) hv fun s' hv'=>Ev.dwn Inv step done i s' (by omega) hv'
theorem Ev.done0 {R:Type} {f:Nat→Option R} {r:R} (h:∀ k,f k=some r):Ev f r:=⟨0,h 0⟩
theorem zmh (n i:Nat):(uV (uW n)).testBit i=(decide (i < 256) && n.testBit i):=by
 rw[zfy,←zdD,Nat.testBit_mod_two_pow]
theorem zsY (a:Vector UInt64 4) (i:Nat) (h:256≤i):(uV a).testBit i=false:=by
 rw[←zBZ a,zmh,decide_eq_false (by omega),Bool.false_and]
theorem zvn (a:Vector UInt64 4) (j t:Nat) (hj:j < 4) (ht:t < 64):(gW a j).testBit t=(uV a).testBit (64*j+t):=by
 rw[zrz a _ (by omega),show (64*j+t) / 64=j by omega,show (64*j+t) % 64=t by omega]
theorem zuZ (x:UInt64) (t:Nat) (h:64≤t):x.toNat.testBit t=false:=by
 refine Nat.testBit_lt_two_pow (Nat.lt_of_lt_of_le x.toNat_lt ?_)
 exact Nat.pow_le_pow_right (by decide) h
theorem zim {a b:Vector UInt64 4} (h:∀ i,i < 256→(uV a).testBit i=(uV b).testBit i):a=b:=by
 apply zpT
 apply Nat.eq_of_testBit_eq
 intro i
 by_cases hi:i < 256
 ·exact h i hi
 ·rw[zsY _ _ (by omega),zsY _ _ (by omega)]
theorem zx5 (x:UInt64) (c t:Nat) (hc:c≤64):(zaq x c).toNat.testBit t=(decide (t < 64) && (decide (c≤t) && x.toNat.testBit (t - c))):=by
 unfold zaq
 rw[UInt64.toNat_ofNat',Nat.testBit_mod_two_pow,Nat.min_eq_left hc,Nat.testBit_mul_two_pow]
theorem zyo (x:UInt64) (c t:Nat) (hc:c≤64):(zaa x c).toNat.testBit t=x.toNat.testBit (t+c):=by
 unfold zaa
 rw[UInt64.toNat_ofNat',Nat.testBit_mod_two_pow,Nat.min_eq_left hc,Nat.testBit_div_two_pow]
 by_cases ht:t < 64
 ·rw[decide_eq_true ht,Bool.true_and]
 ·rw[decide_eq_false ht,Bool.false_and,zuZ _ _ (by omega)]
theorem zDr (x y:UInt64) (t:Nat):(x ||| y).toNat.testBit t=(x.toNat.testBit t || y.toNat.testBit t):=by
 rw[UInt64.toNat_or,Nat.testBit_or]
theorem znR (a:Vector UInt64 4) (i j:Nat) (x:UInt64) (h:i < 4):gW (Vector.setIfInBounds a i x) j=if i=j then x.toNat else gW a j:=by
 unfold gW
 rw[zax _ _ _ _ _ h]
 split<;>rfl
theorem zn1 (j:Nat):gW (Vector.replicate 4 0) j=0:=by
 unfold gW
 rw[zjB]
 rfl
theorem ze9 (a:Vector UInt64 4) (j:Nat):(List.getD (Vector.toList a) j 0).toNat=gW a j:=rfl
theorem zr3:uV (Vector.replicate 4 0)=0:=by
 unfold uV
 rw[zn1,zn1,zn1,zn1]
theorem zgo {a:Nat} (h:a < 9223372036854775808):w64 ((a:Nat):Int)=((a:Nat):Int):=zaj (by omega) (by omega)
theorem zGd {α:Type} {n:Nat} (v:Vector α n) (i:Nat) (x y:α):Vector.setIfInBounds (Vector.setIfInBounds v i x) i y=Vector.setIfInBounds v i y:=by
 apply Vector.ext
 intro j hj
 simp[Vector.getElem_setIfInBounds]
theorem zr2 {n:Nat} (v:Vector UInt64 n) (i:Nat) (x:UInt64) (h:i < n):List.getD (Vector.toList (Vector.setIfInBounds v i x)) i 0=x:=by
 rw[zax _ _ _ _ _ h,if_pos rfl]
noncomputable def addV (a b:Vector UInt64 4):Vector UInt64 4:=lock (uW (uV a+uV b))
theorem zxb (a b:Vector UInt64 4):addV a b=(uW (uV a+uV b)):=za7 _
noncomputable def addB (a b:Vector UInt64 4):Bool:=lock (!decide (uV a+uV b < 115792089237316195423570985008687907853269984665640564039457584007913129639936))
theorem zCJ (a b:Vector UInt64 4):addB a b=(!decide (uV a+uV b < 115792089237316195423570985008687907853269984665640564039457584007913129639936)):=za7 _
noncomputable def subV (a b:Vector UInt64 4):Vector UInt64 4:=lock (uW (uV a+115792089237316195423570985008687907853269984665640564039457584007913129639936 - uV b))
theorem zB7 (a b:Vector UInt64 4):subV a b=(uW (uV a+115792089237316195423570985008687907853269984665640564039457584007913129639936 - uV b)):=za7 _
noncomputable def subB (a b:Vector UInt64 4):Bool:=lock (decide (uV a < uV b))
theorem zgr (a b:Vector UInt64 4):subB a b=(decide (uV a < uV b)):=za7 _
noncomputable def ovQ (a b:Vector UInt64 4):Vector UInt64 4:=lock (uW (uV a / uV b))
theorem zvx (a b:Vector UInt64 4):ovQ a b=(uW (uV a / uV b)):=za7 _
noncomputable def ovR (a b:Vector UInt64 4):Vector UInt64 4:=lock (uW (if uV b=0 then 0 else uV a % uV b))
theorem zAI (a b:Vector UInt64 4):ovR a b=(uW (if uV b=0 then 0 else uV a % uV b)):=za7 _
noncomputable def ovE (b:Vector UInt64 4):Int:=lock (if uV b=0 then 2 else 0)
theorem zDN (b:Vector UInt64 4):ovE b=(if uV b=0 then 2 else 0):=za7 _
noncomputable def divR (a:Vector UInt64 4) (n:UInt64):UInt64:=lock (if n.toNat=0 then 0 else UInt64.ofNat (uV a % n.toNat))
theorem zCN (a:Vector UInt64 4) (n:UInt64):divR a n=(if n.toNat=0 then 0 else UInt64.ofNat (uV a % n.toNat)):=za7 _
noncomputable def divE (n:UInt64):Int:=lock (if n.toNat=0 then 2 else 0)
theorem zGT (n:UInt64):divE n=(if n.toNat=0 then 2 else 0):=za7 _
noncomputable def mulC (a:Vector UInt64 4) (n:UInt64):UInt64:=lock (UInt64.ofNat (uV a*n.toNat / 115792089237316195423570985008687907853269984665640564039457584007913129639936))
theorem zF4 (a:Vector UInt64 4) (n:UInt64):mulC a n=(UInt64.ofNat (uV a*n.toNat / 115792089237316195423570985008687907853269984665640564039457584007913129639936)):=za7 _
noncomputable def lenN (n:Nat):Nat:=lock (if n=0 then 0 else Nat.log2 n+1)
theorem zBP (n:Nat):lenN n=(if n=0 then 0 else Nat.log2 n+1):=za7 _
theorem zG2 (a b:Vector UInt64 4):addS a b=(addV a b,addB a b):=by
 rw[zxb,zCJ]
 unfold addS
 refine Prod.ext rfl ?_
 show decide _=!decide _
 rw[←decide_not,decide_eq_decide]
 omega
theorem zrd (a b:Vector UInt64 4):uV (subV a b)=(uV a+115792089237316195423570985008687907853269984665640564039457584007913129639936 - uV b) % 115792089237316195423570985008687907853269984665640564039457584007913129639936:=by rw[zB7,zfy]
theorem zDv (a b:Vector UInt64 4):uV (addV a b)=(uV a+uV b) % 115792089237316195423570985008687907853269984665640564039457584007913129639936:=by rw[zxb,zfy]
theorem zmM (b:Vector UInt64 4):(Vector.toList b=Vector.toList (Vector.replicate 4 (0:UInt64)))↔uV b=0:=by
 constructor
 ·intro h
  rw[Vector.toList_inj.1 h,zr3]
 ·intro h
  have:b=Vector.replicate 4 0:=zpT (by rw[h,zr3])
  rw[this]
theorem zzS:lenN 0=0:=by rw[zBP]; rfl
theorem zc2 {n i:Nat}:lenN n≤i↔n < 2 ^ i:=by
 rw[zBP]
 by_cases h:n=0
 ·rw[if_pos h,h]
  simp[Nat.two_pow_pos]
 ·rw[if_neg h,Nat.succ_le_iff,Nat.log2_lt h]
theorem zAy {n i:Nat} (h:∀ j,n < 2 ^ j↔i≤j):lenN n=i:=by
 have a:=zc2.2 ((h i).2 (Nat.le_refl i))
 have b:=(h (lenN n)).1 (zc2.1 (Nat.le_refl _))
 omega
theorem zvk {n:Nat} (k:Nat) (h:n / 2 ^ k≠0):lenN n=lenN (n / 2 ^ k)+k:=by
 have hk:2 ^ k≤n:=by
  by_cases c:2 ^ k≤n
  ·exact c
  ·exact absurd (Nat.div_eq_of_lt (by omega)) h
 refine zAy fun j=>?_
 by_cases c:k≤j
 ·have e:lenN (n / 2 ^ k)+k≤j↔lenN (n / 2 ^ k)≤j - k:=by omega
  rw[e,zc2,Nat.div_lt_iff_lt_mul (Nat.two_pow_pos k),←Nat.pow_add,show j - k+k=j by omega]
 ·constructor
  ·intro g
   have:2 ^ j≤2 ^ k:=Nat.pow_le_pow_right (by decide) (by omega)
   omega
  ·intro g; omega
theorem zhc (x:UInt64) (c:Nat) (hc:c≤64):(zaa x c).toNat=x.toNat / 2 ^ c:=by
 unfold zaa
 rw[UInt64.toNat_ofNat',Nat.min_eq_left hc]
 exact Nat.mod_eq_of_lt (Nat.lt_of_le_of_lt (Nat.div_le_self _ _) x.toNat_lt)
theorem zAB (x:UInt64):lenN x.toNat≤64:=zc2.2 x.toNat_lt
theorem zIo (a:Vector UInt64 4) (i:Nat) (hi:i < 4):gW a i=uV a / 18446744073709551616 ^ i % 18446744073709551616:=by
 have:=zii (uV a) i hi
 rwa [zBZ]at this
end Go.Proofs.YtnolgfdjcipmmaaDoor.M
namespace Go.Proofs.YtnolgfdjcipmmaaDoor.M
open Go
def numU:List UInt8→Nat
 | []=>0
 | x :: r=>x.toNat+256*numU r
theorem zF0:∀ b:List UInt8,numU b < 256 ^ b.length
 | []=>by decide
 | x :: r=>by
  have hx:=x.toNat_lt
  have ih:=zF0 r
  rw[numU,List.length_cons,Nat.pow_succ]
  omega
end Go.Proofs.YtnolgfdjcipmmaaDoor.M
