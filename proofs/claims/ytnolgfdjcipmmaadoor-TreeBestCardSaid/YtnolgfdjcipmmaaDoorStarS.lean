/- Part of the proofs: what functions of the program do: plain functions, and the walks that show it. No condition. -/
import Derived.KernelRfl
import Derived.Test.YtnolgfdjcipmmaaDoorLe
import Derived.Test.YtnolgfdjcipmmaaDoorSbigS
import Derived.Test.YtnolgfdjcipmmaaDoorSwords
import Derived.Test.YtnolgfdjcipmmaaDoorSbigB
set_option linter.unusedVariables false
set_option linter.unusedSimpArgs false
set_option autoImplicit false
namespace Go.Proofs.YtnolgfdjcipmmaaDoor.M
open Go
theorem zoB {t:Nat} (h:t≠0):1≤lenN t∧2 ^ (lenN t - 1)≤t∧t < 2 ^ lenN t:=by
 have h1:t < 2 ^ lenN t:=zc2.1 (Nat.le_refl _)
 have h0:1≤lenN t:=by
  by_cases c:1≤lenN t
  ·exact c
  ·rw[show lenN t=0 by omega,Nat.pow_zero]at h1
   omega
 refine ⟨h0,?_,h1⟩
 by_cases c:2 ^ (lenN t - 1)≤t
 ·exact c
 ·have:=zc2.2 (show t < 2 ^ (lenN t - 1) by omega)
  omega
theorem zIV {t n:Nat} (h1:2 ^ n≤t) (h2:t < 2 ^ (n+1)):lenN t=n+1:=by
 refine zAy fun j=>?_
 constructor
 ·intro h
  by_cases c:n+1≤j
  ·exact c
  ·have:2 ^ j≤2 ^ n:=Nat.pow_le_pow_right (by decide) (by omega)
   omega
 ·intro h
  have:2 ^ (n+1)≤2 ^ j:=Nat.pow_le_pow_right (by decide) h
  omega
noncomputable def cN (t:Nat):Nat:=lenN t / 8+1
noncomputable def cM (t:Nat):Nat:=if cN t≤3 then t*2 ^ (8*(3 - cN t))else t / 2 ^ (8*(cN t - 3))
noncomputable def zht (t:Nat):Nat:=if t=0 then 0 else cN t*16777216+cM t
def tgtN (b:Nat):Nat:=if b / 16777216≤3 then b % 8388608 / 2 ^ (8*(3 - b / 16777216))else b % 8388608*2 ^ (8*(b / 16777216 - 3))
def okP (b:Nat):Prop:=tgtN b < 2 ^ 256∧b / 8388608 % 2=0∧tgtN b≠0∧zht (tgtN b)=b
noncomputable instance (b:Nat):Decidable (okP b):=inferInstanceAs (Decidable (_∧_∧_∧_))
theorem zAK {t:Nat} (h:t≠0):32768≤cM t∧cM t < 8388608:=by
 obtain ⟨h0,h1,h2⟩:=zoB h
 unfold cM
 by_cases c:cN t≤3
 ·rw[if_pos c]
  have e1:2 ^ (lenN t)*2 ^ (8*(3 - cN t))≤2 ^ 23:=by
   rw[←Nat.pow_add]
   exact Nat.pow_le_pow_right (by decide) (by unfold cN at *; omega)
  have e2:2 ^ 15≤2 ^ (lenN t - 1)*2 ^ (8*(3 - cN t)):=by
   rw[←Nat.pow_add]
   exact Nat.pow_le_pow_right (by decide) (by unfold cN at *; omega)
  have e3:=Nat.mul_lt_mul_of_pos_right h2 (Nat.two_pow_pos (8*(3 - cN t)))
  have e4:=Nat.mul_le_mul_right (2 ^ (8*(3 - cN t))) h1
  omega
 ·rw[if_neg c]
  have pp:=Nat.two_pow_pos (8*(cN t - 3))
  constructor
  ·rw[Nat.le_div_iff_mul_le pp,show 32768=2 ^ 15 from rfl,←Nat.pow_add]
   exact Nat.le_trans (Nat.pow_le_pow_right (by decide) (by unfold cN at *; omega)) h1
  ·rw[Nat.div_lt_iff_lt_mul pp,show 8388608=2 ^ 23 from rfl,←Nat.pow_add]
   exact Nat.lt_of_lt_of_le h2 (Nat.pow_le_pow_right (by decide) (by unfold cN at *; omega))
theorem zHV {t:Nat} (h:t < 2 ^ 256):zht t < 4294967296:=by
 by_cases c:t=0
 ·unfold zht; rw[if_pos c]; decide
 ·have hl:lenN t≤256:=zc2.2 h
  have:=zAK c
  unfold zht cN
  rw[if_neg c]
  omega
noncomputable def zdE (t:Vector UInt64 4):UInt32:=lock (UInt32.ofNat (zht (uV t)))
theorem zrh (t:Vector UInt64 4):zdE t=UInt32.ofNat (zht (uV t)):=za7 _
theorem zsV (t:Vector UInt64 4):(zdE t).toNat=zht (uV t):=by
 rw[zrh,UInt32.toNat_ofNat']
 exact Nat.mod_eq_of_lt (zHV (by rw[zdD]; exact zgl t))
noncomputable def ofV (b:UInt32):Vector UInt64 4:=lock (if okP b.toNat then uW (tgtN b.toNat)else Vector.replicate 4 0)
theorem zHg (b:UInt32):ofV b=(if okP b.toNat then uW (tgtN b.toNat)else Vector.replicate 4 0):=za7 _
noncomputable def ofE (b:UInt32):Int:=lock (if okP b.toNat then 0 else 5)
theorem zGU (b:UInt32):ofE b=(if okP b.toNat then 0 else 5):=za7 _
theorem zyl {b:UInt32} (h:okP b.toNat):uV (ofV b)=tgtN b.toNat:=by
 rw[zHg,if_pos h,zfy,←zdD]
 exact Nat.mod_eq_of_lt h.1
noncomputable def byN (t:Nat):Nat:=(lenN t+7) / 8
noncomputable def preX (t:Nat):Nat:=if byN t≤3 then t*2 ^ (8*(3 - byN t))else t / 2 ^ (8*(byN t - 3))
theorem zwg {t:Nat} (h:t≠0):preX t < 16777216∧zht t=if 8388607 < preX t then(byN t+1)*16777216+preX t / 256 else byN t*16777216+preX t:=by
 obtain ⟨h0,h1,h2⟩:=zoB h
 by_cases c8:lenN t % 8=0
 ·have hn:cN t=byN t+1:=by unfold cN byN; omega
  have hx:8388607 < preX t∧preX t < 16777216:=by
   unfold preX
   by_cases c:byN t≤3
   ·rw[if_pos c]
    have e1:2 ^ 23≤2 ^ (lenN t - 1)*2 ^ (8*(3 - byN t)):=by
     rw[←Nat.pow_add]
     exact Nat.pow_le_pow_right (by decide) (by unfold byN at *; omega)
    have e2:=Nat.mul_le_mul_right (2 ^ (8*(3 - byN t))) h1
    have e3:2 ^ (lenN t)*2 ^ (8*(3 - byN t))≤2 ^ 24:=by
     rw[←Nat.pow_add]
     exact Nat.pow_le_pow_right (by decide) (by unfold byN at *; omega)
    have e4:=Nat.mul_lt_mul_of_pos_right h2 (Nat.two_pow_pos (8*(3 - byN t)))
    omega
   ·rw[if_neg c]
    have pp:=Nat.two_pow_pos (8*(byN t - 3))
    constructor
    ·refine Nat.lt_of_lt_of_le (show 8388607 < 2 ^ 23 by decide) ?_
     rw[Nat.le_div_iff_mul_le pp,←Nat.pow_add]
     exact Nat.le_trans (Nat.pow_le_pow_right (by decide) (by unfold byN at *; omega)) h1
    ·rw[Nat.div_lt_iff_lt_mul pp,show 16777216=2 ^ 24 from rfl,←Nat.pow_add]
     exact Nat.lt_of_lt_of_le h2 (Nat.pow_le_pow_right (by decide) (by unfold byN at *; omega))
  refine ⟨hx.2,?_⟩
  rw[if_pos hx.1]
  unfold zht
  rw[if_neg h,hn]
  congr 1
  unfold cM preX
  rw[hn]
  by_cases c:byN t≤3
  ·rw[if_pos c]
   by_cases c3:byN t+1≤3
   ·rw[if_pos c3,show 8*(3 - byN t)=8*(3 - (byN t+1))+8 by omega,Nat.pow_add,←Nat.mul_assoc,show 256=2 ^ 8 from rfl,Nat.mul_div_cancel _ (by decide)]
   ·rw[if_neg c3,show 8*(byN t+1 - 3)=8 by omega,show 8*(3 - byN t)=0 by omega,Nat.pow_zero,Nat.mul_one]
  ·rw[if_neg c,if_neg (by omega),show 8*(byN t+1 - 3)=8*(byN t - 3)+8 by omega,Nat.pow_add,←Nat.div_div_eq_div_mul]
 ·have hn:cN t=byN t:=by unfold cN byN; omega
  have hx:preX t=cM t:=by unfold preX cM; rw[hn]
  have:=zAK h
  rw[hx]
  refine ⟨by omega,?_⟩
  rw[if_neg (by omega)]
  unfold zht
  rw[if_neg h,hn]
theorem zls {t:Nat}:byN t=0↔t=0:=by
 unfold byN
 constructor
 ·intro h
  by_cases c:t=0
  ·exact c
  ·have:=(zoB c).1
   omega
 ·intro h
  rw[h,zzS]
theorem zGh {t:Nat} (h:t < 2 ^ 256):byN t≤32:=by
 have:=zc2.2 h
 unfold byN
 omega
theorem sh24 (n:Nat) (x:UInt32) (hn:n < 256) (hx:x.toNat < 16777216):(zcb (UInt32.ofInt ((n:Nat):Int)) 24 ||| x).toNat=n*16777216+x.toNat:=by
 have e:(UInt32.ofInt ((n:Nat):Int)).toNat=n:=by
  rw[show UInt32.ofInt ((n:Nat):Int)=UInt32.ofNat (((n:Nat):Int) % 2 ^ 32).toNat from rfl,UInt32.toNat_ofNat']
  omega
 have e2:(zcb (UInt32.ofInt ((n:Nat):Int)) 24).toNat=2 ^ 24*n:=by
  unfold zcb
  rw[UInt32.toNat_ofNat',e,Nat.min_eq_left (by decide)]
  omega
 rw[UInt32.toNat_or,e2,←Nat.two_pow_add_eq_or_of_lt hx]
 omega
theorem zyR (T:Vector UInt64 4) (b:UInt32):zdE T=b↔zht (uV T)=b.toNat:=by
 rw[←UInt32.toNat_inj,zsV]
theorem zIE {b:UInt32} {T:Vector UInt64 4} (hT:uV T=tgtN b.toNat) (hlt:tgtN b.toNat < 2 ^ 256) {s z q:Bool} (hs:s=decide (b.toNat / 8388608 % 2=0)) (hz:z=decide (uV T=0)) (hq:q=decide (zht (uV T)=b.toNat)) :
  (if s=true∧z=false∧q=true then(T,(0:Int)) else(Vector.replicate 4 0,5))=(ofV b,ofE b):=by
 have e:(s=true∧z=false∧q=true)↔okP b.toNat:=by
  rw[hs,hz,hq,decide_eq_true_iff,decide_eq_false_iff_not,decide_eq_true_iff,hT]
  exact ⟨fun h=>⟨hlt,h⟩,fun h=>h.2⟩
 rw[zHg,zGU]
 by_cases c:okP b.toNat
 ·rw[if_pos (e.2 c),if_pos c,if_pos c,←hT,zBZ]
 ·rw[if_neg (fun h=>c (e.1 h)),if_neg c,if_neg c]
theorem zIA {b:UInt32} (h:¬ okP b.toNat):(Vector.replicate 4 0,(5:Int))=(ofV b,ofE b):=by
 rw[zHg,zGU,if_neg h,if_neg h]
noncomputable def zbN (b:UInt32):Vector UInt64 4:=lock (if okP b.toNat then uW (115792089237316195423570985008687907853269984665640564039457584007913129639936 / (tgtN b.toNat+1))else Vector.replicate 4 0)
theorem zxK (b:UInt32):zbN b=(if okP b.toNat then uW (115792089237316195423570985008687907853269984665640564039457584007913129639936 / (tgtN b.toNat+1))else Vector.replicate 4 0):=za7 _
noncomputable def znH (a:Vector UInt64 4) (n m:UInt64):Vector UInt64 4:=lock (uW (uV a*n.toNat / m.toNat))
theorem zDl (a:Vector UInt64 4) (n m:UInt64):znH a n m=uW (uV a*n.toNat / m.toNat):=za7 _
noncomputable def zFv (a:Vector UInt64 4) (n m:UInt64):Bool:=lock (!decide (uV a*n.toNat / m.toNat < 115792089237316195423570985008687907853269984665640564039457584007913129639936))
theorem zDS (a:Vector UInt64 4) (n m:UInt64):zFv a n m=!decide (uV a*n.toNat / m.toNat < 115792089237316195423570985008687907853269984665640564039457584007913129639936):=za7 _
theorem zk1 (b:UInt32):ofE b=0↔okP b.toNat:=by
 rw[zGU]
 by_cases c:okP b.toNat
 ·rw[if_pos c]; exact ⟨fun _=>c,fun _=>rfl⟩
 ·rw[if_neg c]; exact ⟨fun e=>absurd e (by decide),fun e=>absurd e c⟩
theorem zGg (a b:Vector UInt64 4):(Vector.toList a=Vector.toList b)↔uV a=uV b:=by
 constructor
 ·intro q
  rw[Vector.toList_inj.1 q]
 ·intro q
  rw[zpT q]
theorem zoJ:uV (uW 1)=1:=by rw[zfy]
theorem zJC:uV (uW 0)=0:=by rw[zfy]
theorem zH8 {d M:Nat} (hd:0 < d) (hM:d≤M):M / d=(M - d) / d+1:=by
 have:M=(M - d)+d:=by omega
 conv=>lhs; rw[this]
 rw[Nat.add_div_right _ hd]
theorem zHy {d M:Nat} (hd:0 < d) (hM:0 < M):M / d=if (M - 1) % d=d - 1 then(M - 1) / d+1 else(M - 1) / d:=by
 have h:=Nat.div_add_mod (M - 1) d
 have hl:=Nat.mod_lt (M - 1) hd
 by_cases c:(M - 1) % d=d - 1
 ·rw[if_pos c]
  have e:M=d*((M - 1) / d+1):=by rw[Nat.mul_add]; omega
  conv=>lhs; rw[e]
  rw[Nat.mul_div_cancel_left _ hd]
 ·rw[if_neg c]
  refine Nat.div_eq_of_lt_le ?_ ?_
  ·rw[Nat.mul_comm]; omega
  ·rw[Nat.mul_comm,Nat.mul_add]; omega
end Go.Proofs.YtnolgfdjcipmmaaDoor.M
namespace Go.Proofs.YtnolgfdjcipmmaaDoor.M
open Go
def limT:Nat:=57896037716911750921221705069588091649609539881711309849342236841432341020672
theorem zBp:tgtN 545259519=limT:=by decide
theorem zI8:lenN limT=255:=zIV (n:=254) (by decide) (by decide)
theorem zIz:cN limT=32:=by unfold cN; rw[zI8]
theorem zJE:cM limT=8388607:=by
 unfold cM
 rw[zIz,if_neg (by decide)]
 decide
theorem zHM:zht limT=545259519:=by
 unfold zht
 rw[zJE,zIz,if_neg (by decide)]
theorem zGb:okP 545259519:=by
 unfold okP
 rw[zBp,zHM]
 exact ⟨by decide,by decide,by decide,rfl⟩
theorem zGy:uV (ofV 545259519)=limT:=by
 rw[zyl (b:=545259519) zGb]
 exact zBp
def zEX (T s:Nat):Nat:=if limT < T*s / 480 then limT else if T*s / 480=0 then 1 else T*s / 480
def zjV (s:Nat):Nat:=if s < 120 then 120 else if 1920 < s then 1920 else s
noncomputable def zFg (b s:UInt32):UInt32:=lock (if okP b.toNat then UInt32.ofNat (zht (zEX (tgtN b.toNat) (zjV s.toNat)))else 0)
theorem zDu (b s:UInt32):zFg b s=(if okP b.toNat then UInt32.ofNat (zht (zEX (tgtN b.toNat) (zjV s.toNat)))else 0):=za7 _
theorem zyp {b s:UInt32} {V:Vector UInt64 4} (h:okP b.toNat) (hV:uV V=zEX (tgtN b.toNat) (zjV s.toNat)):(zdE V,(0:Int))=(zFg b s,ofE b):=by
 rw[zrh,hV,zDu,if_pos h,(zk1 b).2 h]
end Go.Proofs.YtnolgfdjcipmmaaDoor.M
