/- Part of the proofs: what functions of the program do: plain functions, and the walks that show it. No condition. -/
import Derived.KernelRfl
import Derived.Test.YtnolgfdjcipmmaaDoorProg
import Derived.Test.YtnolgfdjcipmmaaDoorLe
import Derived.Test.YtnolgfdjcipmmaaDoorSwords
import Derived.Test.YtnolgfdjcipmmaaDoorSbigS
import Derived.Test.YtnolgfdjcipmmaaDoorScellS
import Derived.Test.YtnolgfdjcipmmaaDoorSshaK
set_option linter.unusedVariables false
set_option linter.unusedSimpArgs false
set_option autoImplicit false
namespace Go.Proofs.YtnolgfdjcipmmaaDoor.M
open Go
noncomputable section
def bits_RotateLeft32 (x_0:UInt32) (k_1:Int):UInt32 :=
 ((zcb x_0 (UInt64.toNat ((UInt64.ofInt k_1) &&& (31:UInt64)))) ||| (zaP x_0 (UInt64.toNat ((32:UInt64) - ((UInt64.ofInt k_1) &&& (31:UInt64))))))
end
end Go.Proofs.YtnolgfdjcipmmaaDoor.M
namespace Go.Proofs.YtnolgfdjcipmmaaDoor.M
open Go
noncomputable section
def bits_Len64_tab0:List UInt8:=Array.toList (ByteArray.data (ByteArray.mk (List.toArray (List.append (List.append ([(0:UInt8),(1:UInt8),(2:UInt8),(2:UInt8),(3:UInt8),(3:UInt8),(3:UInt8),(3:UInt8),(4:UInt8),(4:UInt8),(4:UInt8),(4:UInt8),(4:UInt8),(4:UInt8),(4:UInt8),(4:UInt8),(5:UInt8),(5:UInt8),(5:UInt8),(5:UInt8),(5:UInt8),(5:UInt8),(5:UInt8),(5:UInt8),(5:UInt8),(5:UInt8),(5:UInt8),(5:UInt8),(5:UInt8),(5:UInt8),(5:UInt8),(5:UInt8),(6:UInt8),(6:UInt8),(6:UInt8),(6:UInt8),(6:UInt8),(6:UInt8),(6:UInt8),(6:UInt8),(6:UInt8),(6:UInt8),(6:UInt8),(6:UInt8),(6:UInt8),(6:UInt8),(6:UInt8),(6:UInt8),(6:UInt8),(6:UInt8),(6:UInt8),(6:UInt8),(6:UInt8),(6:UInt8),(6:UInt8),(6:UInt8),(6:UInt8),(6:UInt8),(6:UInt8),(6:UInt8),(6:UInt8),(6:UInt8),(6:UInt8),(6:UInt8)]:List UInt8) ([(7:UInt8),(7:UInt8),(7:UInt8),(7:UInt8),(7:UInt8),(7:UInt8),(7:UInt8),(7:UInt8),(7:UInt8),(7:UInt8),(7:UInt8),(7:UInt8),(7:UInt8),(7:UInt8),(7:UInt8),(7:UInt8),(7:UInt8),(7:UInt8),(7:UInt8),(7:UInt8),(7:UInt8),(7:UInt8),(7:UInt8),(7:UInt8),(7:UInt8),(7:UInt8),(7:UInt8),(7:UInt8),(7:UInt8),(7:UInt8),(7:UInt8),(7:UInt8),(7:UInt8),(7:UInt8),(7:UInt8),(7:UInt8),(7:UInt8),(7:UInt8),(7:UInt8),(7:UInt8),(7:UInt8),(7:UInt8),(7:UInt8),(7:UInt8),(7:UInt8),(7:UInt8),(7:UInt8),(7:UInt8),(7:UInt8),(7:UInt8),(7:UInt8),(7:UInt8),(7:UInt8),(7:UInt8),(7:UInt8),(7:UInt8),(7:UInt8),(7:UInt8),(7:UInt8),(7:UInt8),(7:UInt8),(7:UInt8),(7:UInt8),(7:UInt8)]:List UInt8)) (List.append ([(8:UInt8),(8:UInt8),(8:UInt8),(8:UInt8),(8:UInt8),(8:UInt8),(8:UInt8),(8:UInt8),(8:UInt8),(8:UInt8),(8:UInt8),(8:UInt8),(8:UInt8),(8:UInt8),(8:UInt8),(8:UInt8),(8:UInt8),(8:UInt8),(8:UInt8),(8:UInt8),(8:UInt8),(8:UInt8),(8:UInt8),(8:UInt8),(8:UInt8),(8:UInt8),(8:UInt8),(8:UInt8),(8:UInt8),(8:UInt8),(8:UInt8),(8:UInt8),(8:UInt8),(8:UInt8),(8:UInt8),(8:UInt8),(8:UInt8),(8:UInt8),(8:UInt8),(8:UInt8),(8:UInt8),(8:UInt8),(8:UInt8),(8:UInt8),(8:UInt8),(8:UInt8),(8:UInt8),(8:UInt8),(8:UInt8),(8:UInt8),(8:UInt8),(8:UInt8),(8:UInt8),(8:UInt8),(8:UInt8),(8:UInt8),(8:UInt8),(8:UInt8),(8:UInt8),(8:UInt8),(8:UInt8),(8:UInt8),(8:UInt8),(8:UInt8)]:List UInt8) ([(8:UInt8),(8:UInt8),(8:UInt8),(8:UInt8),(8:UInt8),(8:UInt8),(8:UInt8),(8:UInt8),(8:UInt8),(8:UInt8),(8:UInt8),(8:UInt8),(8:UInt8),(8:UInt8),(8:UInt8),(8:UInt8),(8:UInt8),(8:UInt8),(8:UInt8),(8:UInt8),(8:UInt8),(8:UInt8),(8:UInt8),(8:UInt8),(8:UInt8),(8:UInt8),(8:UInt8),(8:UInt8),(8:UInt8),(8:UInt8),(8:UInt8),(8:UInt8),(8:UInt8),(8:UInt8),(8:UInt8),(8:UInt8),(8:UInt8),(8:UInt8),(8:UInt8),(8:UInt8),(8:UInt8),(8:UInt8),(8:UInt8),(8:UInt8),(8:UInt8),(8:UInt8),(8:UInt8),(8:UInt8),(8:UInt8),(8:UInt8),(8:UInt8),(8:UInt8),(8:UInt8),(8:UInt8),(8:UInt8),(8:UInt8),(8:UInt8),(8:UInt8),(8:UInt8),(8:UInt8),(8:UInt8),(8:UInt8),(8:UInt8),(8:UInt8)]:List UInt8))))))
def bits_Len64 (x_0:UInt64):Option (Int) :=
 bif decide ((4294967296:UInt64)≤x_0) then(bif decide ((65536:UInt64)≤(zaa x_0 (32:Nat))) then(bif decide ((256:UInt64)≤(zaa (zaa x_0 (32:Nat)) (16:Nat))) then(if((0:Int)≤(((UInt8.toNat (UInt64.toUInt8 (zaa (zaa (zaa x_0 (32:Nat)) (16:Nat)) (8:Nat)))):Nat):Int))∧((((UInt8.toNat (UInt64.toUInt8 (zaa (zaa (zaa x_0 (32:Nat)) (16:Nat)) (8:Nat)))):Nat):Int) < (((List.length (bits_Len64_tab0)):Nat):Int)) then
     some (w64 ((56:Int)+(((UInt8.toNat (List.getD (bits_Len64_tab0) (Int.toNat (((UInt8.toNat (UInt64.toUInt8 (zaa (zaa (zaa x_0 (32:Nat)) (16:Nat)) (8:Nat)))):Nat):Int)) (0:UInt8))):Nat):Int)))
    else none)
    else(if((0:Int)≤(((UInt8.toNat (UInt64.toUInt8 (zaa (zaa x_0 (32:Nat)) (16:Nat)))):Nat):Int))∧((((UInt8.toNat (UInt64.toUInt8 (zaa (zaa x_0 (32:Nat)) (16:Nat)))):Nat):Int) < (((List.length (bits_Len64_tab0)):Nat):Int)) then
     some (w64 ((48:Int)+(((UInt8.toNat (List.getD (bits_Len64_tab0) (Int.toNat (((UInt8.toNat (UInt64.toUInt8 (zaa (zaa x_0 (32:Nat)) (16:Nat)))):Nat):Int)) (0:UInt8))):Nat):Int)))
    else none))
   else(bif decide ((256:UInt64)≤(zaa x_0 (32:Nat))) then(if((0:Int)≤(((UInt8.toNat (UInt64.toUInt8 (zaa (zaa x_0 (32:Nat)) (8:Nat)))):Nat):Int))∧((((UInt8.toNat (UInt64.toUInt8 (zaa (zaa x_0 (32:Nat)) (8:Nat)))):Nat):Int) < (((List.length (bits_Len64_tab0)):Nat):Int)) then
     some (w64 ((40:Int)+(((UInt8.toNat (List.getD (bits_Len64_tab0) (Int.toNat (((UInt8.toNat (UInt64.toUInt8 (zaa (zaa x_0 (32:Nat)) (8:Nat)))):Nat):Int)) (0:UInt8))):Nat):Int)))
    else none)
    else(if((0:Int)≤(((UInt8.toNat (UInt64.toUInt8 (zaa x_0 (32:Nat)))):Nat):Int))∧((((UInt8.toNat (UInt64.toUInt8 (zaa x_0 (32:Nat)))):Nat):Int) < (((List.length (bits_Len64_tab0)):Nat):Int)) then
     some (w64 ((32:Int)+(((UInt8.toNat (List.getD (bits_Len64_tab0) (Int.toNat (((UInt8.toNat (UInt64.toUInt8 (zaa x_0 (32:Nat)))):Nat):Int)) (0:UInt8))):Nat):Int)))
    else none)))
  else(
     bif decide ((65536:UInt64)≤x_0) then(bif decide ((256:UInt64)≤(zaa x_0 (16:Nat))) then(if((0:Int)≤(((UInt8.toNat (UInt64.toUInt8 (zaa (zaa x_0 (16:Nat)) (8:Nat)))):Nat):Int))∧((((UInt8.toNat (UInt64.toUInt8 (zaa (zaa x_0 (16:Nat)) (8:Nat)))):Nat):Int) < (((List.length (bits_Len64_tab0)):Nat):Int)) then
     some (w64 ((24:Int)+(((UInt8.toNat (List.getD (bits_Len64_tab0) (Int.toNat (((UInt8.toNat (UInt64.toUInt8 (zaa (zaa x_0 (16:Nat)) (8:Nat)))):Nat):Int)) (0:UInt8))):Nat):Int)))
    else none)
    else(if((0:Int)≤(((UInt8.toNat (UInt64.toUInt8 (zaa x_0 (16:Nat)))):Nat):Int))∧((((UInt8.toNat (UInt64.toUInt8 (zaa x_0 (16:Nat)))):Nat):Int) < (((List.length (bits_Len64_tab0)):Nat):Int)) then
     some (w64 ((16:Int)+(((UInt8.toNat (List.getD (bits_Len64_tab0) (Int.toNat (((UInt8.toNat (UInt64.toUInt8 (zaa x_0 (16:Nat)))):Nat):Int)) (0:UInt8))):Nat):Int)))
    else none))
   else(bif decide ((256:UInt64)≤x_0) then(if((0:Int)≤(((UInt8.toNat (UInt64.toUInt8 (zaa x_0 (8:Nat)))):Nat):Int))∧((((UInt8.toNat (UInt64.toUInt8 (zaa x_0 (8:Nat)))):Nat):Int) < (((List.length (bits_Len64_tab0)):Nat):Int)) then
     some (w64 ((8:Int)+(((UInt8.toNat (List.getD (bits_Len64_tab0) (Int.toNat (((UInt8.toNat (UInt64.toUInt8 (zaa x_0 (8:Nat)))):Nat):Int)) (0:UInt8))):Nat):Int)))
    else none)
    else(if((0:Int)≤(((UInt8.toNat (UInt64.toUInt8 x_0)):Nat):Int))∧((((UInt8.toNat (UInt64.toUInt8 x_0)):Nat):Int) < (((List.length (bits_Len64_tab0)):Nat):Int)) then
     some (w64 ((0:Int)+(((UInt8.toNat (List.getD (bits_Len64_tab0) (Int.toNat (((UInt8.toNat (UInt64.toUInt8 x_0)):Nat):Int)) (0:UInt8))):Nat):Int)))
    else none)))
theorem zty:bits_Len64_tab0.length=256:=by decide +kernel
theorem zqQ:∀ b:Fin 256,((List.getD bits_Len64_tab0 b.val 0).toNat)=(if b.val=0 then 0 else Nat.log2 b.val+1):=by decide +kernel
theorem ztE (b:Fin 256):((List.getD bits_Len64_tab0 b.val 0).toNat)=lenN b.val:=by rw[zBP]; exact zqQ b
theorem zb2 (y:UInt64) (n:Nat) (x c:Nat) (hy:y.toNat=x / 2 ^ c) (hx:x / 2 ^ c < 256) (hn:x / 2 ^ c≠0∨c=0) (hc:c≤56) :
  (if((0:Int)≤(((UInt8.toNat (UInt64.toUInt8 y)):Nat):Int))∧((((UInt8.toNat (UInt64.toUInt8 y)):Nat):Int) < (((List.length (bits_Len64_tab0)):Nat):Int)) then
   some (w64 (((c:Nat):Int)+(((UInt8.toNat (List.getD (bits_Len64_tab0) (Int.toNat (((UInt8.toNat (UInt64.toUInt8 y)):Nat):Int)) (0:UInt8))):Nat):Int)))else none)=some (((lenN x:Nat):Int)):=by
 have e:(UInt64.toUInt8 y).toNat=x / 2 ^ c:=by
  rw[UInt64.toNat_toUInt8,hy]; omega
 rw[e,zty,if_pos (by omega),Int.toNat_natCast,ztE ⟨x / 2 ^ c,hx⟩]
 show some (w64 (((c:Nat):Int)+((lenN (x / 2 ^ c):Nat):Int)))=_
 have hl:lenN (x / 2 ^ c)≤8:=zc2.2 hx
 have e2:lenN x=lenN (x / 2 ^ c)+c:=by
  by_cases h0:c=0
  ·subst h0; rw[Nat.pow_zero,Nat.div_one]; rfl
  ·exact zvk c (by rcases hn with h | h; exact h; exact absurd h h0)
 rw[zaj (by omega) (by omega),e2]
 refine congrArg some ?_
 omega
theorem zsN (x:UInt64):bits_Len64 x=some (((lenN x.toNat:Nat):Int)):=by
 have hx:=x.toNat_lt
 have s32:(zaa x 32).toNat=x.toNat / 2 ^ 32:=zhc _ _ (by omega)
 have s16:(zaa x 16).toNat=x.toNat / 2 ^ 16:=zhc _ _ (by omega)
 have s8:(zaa x 8).toNat=x.toNat / 2 ^ 8:=zhc _ _ (by omega)
 have s48:(zaa (zaa x 32) 16).toNat=x.toNat / 2 ^ 48:=by rw[zhc _ _ (by omega),s32,Nat.div_div_eq_div_mul]
 have s40:(zaa (zaa x 32) 8).toNat=x.toNat / 2 ^ 40:=by rw[zhc _ _ (by omega),s32,Nat.div_div_eq_div_mul]
 have s24:(zaa (zaa x 16) 8).toNat=x.toNat / 2 ^ 24:=by rw[zhc _ _ (by omega),s16,Nat.div_div_eq_div_mul]
 have s56:(zaa (zaa (zaa x 32) 16) 8).toNat=x.toNat / 2 ^ 56:=by rw[zhc _ _ (by omega),s48,Nat.div_div_eq_div_mul]
 have le:∀ (y:UInt64) (n:Nat) (h:n < 18446744073709551616),(UInt64.ofNat n≤y)↔n≤y.toNat:=by
  intro y n h
  rw[UInt64.le_iff_toNat_le,UInt64.toNat_ofNat',Nat.mod_eq_of_lt h]
 have l32:∀ y:UInt64,((4294967296:UInt64)≤y)↔4294967296≤y.toNat:=fun y=>le y 4294967296 (by omega)
 have l16:∀ y:UInt64,((65536:UInt64)≤y)↔65536≤y.toNat:=fun y=>le y 65536 (by omega)
 have l8:∀ y:UInt64,((256:UInt64)≤y)↔256≤y.toNat:=fun y=>le y 256 (by omega)
 rw[bits_Len64.eq_1]
 by_cases c1:(4294967296:UInt64)≤x
 ·rw[zan c1]
  rw[l32]at c1
  by_cases c2:(65536:UInt64)≤zaa x 32
  ·rw[zan c2]
   rw[l16,s32]at c2
   by_cases c3:(256:UInt64)≤zaa (zaa x 32) 16
   ·rw[zan c3]
    rw[l8,s48]at c3
    exact zb2 _ 0 _ 56 s56 (by omega) (by omega) (by omega)
   ·rw[zau c3]
    rw[l8,s48]at c3
    exact zb2 _ 0 _ 48 s48 (by omega) (by omega) (by omega)
  ·rw[zau c2]
   rw[l16,s32]at c2
   by_cases c3:(256:UInt64)≤zaa x 32
   ·rw[zan c3]
    rw[l8,s32]at c3
    exact zb2 _ 0 _ 40 s40 (by omega) (by omega) (by omega)
   ·rw[zau c3]
    rw[l8,s32]at c3
    exact zb2 _ 0 _ 32 s32 (by omega) (by omega) (by omega)
 ·rw[zau c1]
  rw[l32]at c1
  by_cases c2:(65536:UInt64)≤x
  ·rw[zan c2]
   rw[l16]at c2
   by_cases c3:(256:UInt64)≤zaa x 16
   ·rw[zan c3]
    rw[l8,s16]at c3
    exact zb2 _ 0 _ 24 s24 (by omega) (by omega) (by omega)
   ·rw[zau c3]
    rw[l8,s16]at c3
    exact zb2 _ 0 _ 16 s16 (by omega) (by omega) (by omega)
  ·rw[zau c2]
   rw[l16]at c2
   by_cases c3:(256:UInt64)≤x
   ·rw[zan c3]
    rw[l8]at c3
    exact zb2 _ 0 _ 8 s8 (by omega) (by omega) (by omega)
   ·rw[zau c3]
    rw[l8]at c3
    exact zb2 x 0 x.toNat 0 (by rw[Nat.pow_zero,Nat.div_one]) (by omega) (by omega) (by omega)
end
end Go.Proofs.YtnolgfdjcipmmaaDoor.M
namespace Go.Proofs.YtnolgfdjcipmmaaDoor.M
open Go
noncomputable section
def bits_Mul64 (x_0:UInt64) (y:UInt64):UInt64 × UInt64 :=
 (((((zaa x_0 (32:Nat))*(zaa y (32:Nat)))+(zaa (((zaa x_0 (32:Nat))*(y &&& (4294967295:UInt64)))+(zaa ((x_0 &&& (4294967295:UInt64))*(y &&& (4294967295:UInt64))) (32:Nat))) (32:Nat)))+(zaa (((((zaa x_0 (32:Nat))*(y &&& (4294967295:UInt64)))+(zaa ((x_0 &&& (4294967295:UInt64))*(y &&& (4294967295:UInt64))) (32:Nat))) &&& (4294967295:UInt64))+((x_0 &&& (4294967295:UInt64))*(zaa y (32:Nat)))) (32:Nat))),(x_0*y))
theorem zth (x y:UInt64):bits_Mul64 x y=(zyb x y,zq8 x y):=by
 have hx:x.toNat < 2 ^ 64:=x.toNat_lt
 have hy:y.toNat < 2 ^ 64:=y.toNat_lt
 have lo:∀ z:UInt64,(z &&& 4294967295).toNat=z.toNat % 4294967296:=by
  intro z
  rw[UInt64.toNat_and]
  exact Nat.and_two_pow_sub_one_eq_mod z.toNat 32
 have hi:∀ z:UInt64,(zaa z 32).toNat=z.toNat / 4294967296:=by
  intro z
  have:=z.toNat_lt
  unfold zaa
  rw[UInt64.toNat_ofNat',show min 32 64=32 from rfl]
  omega
 unfold bits_Mul64 zyb zq8
 rw[za7,za7]
 refine Prod.ext ?_ rfl
 apply UInt64.toNat_inj.1
 simp only[UInt64.toNat_add,UInt64.toNat_mul,lo,hi,UInt64.toNat_ofNat']
 generalize x.toNat=a at *
 generalize y.toNat=b at *
 have e:a*b=(a / 4294967296)*(b / 4294967296)*18446744073709551616+((a / 4294967296)*(b % 4294967296)+(a % 4294967296)*(b / 4294967296))*4294967296+(a % 4294967296)*(b % 4294967296):=by
  have e1:a=(a / 4294967296)*4294967296+a % 4294967296:=by omega
  have e2:b=(b / 4294967296)*4294967296+b % 4294967296:=by omega
  generalize a / 4294967296=ah at *
  generalize a % 4294967296=al at *
  generalize b / 4294967296=bh at *
  generalize b % 4294967296=bl at *
  subst e1 e2
  grind
 have b1:a / 4294967296≤4294967295:=by omega
 have b2:a % 4294967296≤4294967295:=by omega
 have b3:b / 4294967296≤4294967295:=by omega
 have b4:b % 4294967296≤4294967295:=by omega
 rw[e]
 generalize a / 4294967296=ah at *
 generalize a % 4294967296=al at *
 generalize b / 4294967296=bh at *
 generalize b % 4294967296=bl at *
 have p1:=Nat.mul_le_mul b1 b3
 have p2:=Nat.mul_le_mul b1 b4
 have p3:=Nat.mul_le_mul b2 b3
 have p4:=Nat.mul_le_mul b2 b4
 generalize ah*bh=s at *
 generalize ah*bl=q at *
 generalize al*bh=r at *
 generalize al*bl=p at *
 omega
end
end Go.Proofs.YtnolgfdjcipmmaaDoor.M
namespace Go.Proofs.YtnolgfdjcipmmaaDoor.M
open Go
noncomputable section
def bits_LeadingZeros64 (x_0:UInt64):Int :=
 (w64 ((64:Int) - (((lenN (UInt64.toNat x_0)):Nat):Int)))
theorem ziE (x:UInt64):bits_LeadingZeros64 x=(((64 - lenN x.toNat:Nat):Nat):Int):=by
 have:=zAB x
 unfold bits_LeadingZeros64
 rw[zaj (by omega) (by omega)]
 omega
end
end Go.Proofs.YtnolgfdjcipmmaaDoor.M
namespace Go.Proofs.YtnolgfdjcipmmaaDoor.M
open Go
noncomputable section
def bits_Div64_h2:Nat→UInt64→UInt64→UInt64→UInt64→UInt64→UInt64→UInt64→UInt64→UInt64→Option (UInt64 × UInt64)
 | 0,_,_,_,_,_,_,_,_,_=>none
 | k+1,y,s,yn1,yn0,un0,q1,rhat,un21,q0=>bif eqb (decide ((4294967296:UInt64)≤q0)) false then(bif bif false then true else(decide ((((4294967296:UInt64)*rhat)+un0) < (q0*yn0))) then(bif decide ((4294967296:UInt64)≤(rhat+yn1)) then(some (((q1*(4294967296:UInt64))+(q0 - (1:UInt64))),(zaa (((un21*(4294967296:UInt64))+un0) - ((q0 - (1:UInt64))*y)) (UInt64.toNat s))))
     else(bits_Div64_h2 k y s yn1 yn0 un0 q1 (rhat+yn1) un21 (q0 - (1:UInt64))))
    else(some (((q1*(4294967296:UInt64))+q0),(zaa (((un21*(4294967296:UInt64))+un0) - (q0*y)) (UInt64.toNat s)))))
   else(bif decide ((4294967296:UInt64)≤(rhat+yn1)) then(some (((q1*(4294967296:UInt64))+(q0 - (1:UInt64))),(zaa (((un21*(4294967296:UInt64))+un0) - ((q0 - (1:UInt64))*y)) (UInt64.toNat s))))
    else(bits_Div64_h2 k y s yn1 yn0 un0 q1 (rhat+yn1) un21 (q0 - (1:UInt64))))
def bits_Div64_h0:Nat→UInt64→UInt64→UInt64→UInt64→UInt64→UInt64→UInt64→UInt64→UInt64→Option (UInt64 × UInt64)
 | 0,_,_,_,_,_,_,_,_,_=>none
 | k+1,y,s,yn1,yn0,un32,un1,un0,q1,rhat=>bif eqb (decide ((4294967296:UInt64)≤q1)) false then(bif bif false then true else(decide ((((4294967296:UInt64)*rhat)+un1) < (q1*yn0))) then(bif decide ((4294967296:UInt64)≤(rhat+yn1)) then(if yn1≠(0:UInt64) then
      bits_Div64_h2 k y s yn1 yn0 un0 (q1 - (1:UInt64)) ((((un32*(4294967296:UInt64))+un1) - ((q1 - (1:UInt64))*y)) - (((((un32*(4294967296:UInt64))+un1) - ((q1 - (1:UInt64))*y)) / yn1)*yn1)) (((un32*(4294967296:UInt64))+un1) - ((q1 - (1:UInt64))*y)) ((((un32*(4294967296:UInt64))+un1) - ((q1 - (1:UInt64))*y)) / yn1)
     else none)
     else(bits_Div64_h0 k y s yn1 yn0 un32 un1 un0 (q1 - (1:UInt64)) (rhat+yn1)))
    else(if yn1≠(0:UInt64) then
     bits_Div64_h2 k y s yn1 yn0 un0 q1 ((((un32*(4294967296:UInt64))+un1) - (q1*y)) - (((((un32*(4294967296:UInt64))+un1) - (q1*y)) / yn1)*yn1)) (((un32*(4294967296:UInt64))+un1) - (q1*y)) ((((un32*(4294967296:UInt64))+un1) - (q1*y)) / yn1)
    else none))
   else(bif decide ((4294967296:UInt64)≤(rhat+yn1)) then(if yn1≠(0:UInt64) then
     bits_Div64_h2 k y s yn1 yn0 un0 (q1 - (1:UInt64)) ((((un32*(4294967296:UInt64))+un1) - ((q1 - (1:UInt64))*y)) - (((((un32*(4294967296:UInt64))+un1) - ((q1 - (1:UInt64))*y)) / yn1)*yn1)) (((un32*(4294967296:UInt64))+un1) - ((q1 - (1:UInt64))*y)) ((((un32*(4294967296:UInt64))+un1) - ((q1 - (1:UInt64))*y)) / yn1)
    else none)
    else(bits_Div64_h0 k y s yn1 yn0 un32 un1 un0 (q1 - (1:UInt64)) (rhat+yn1)))
def bits_Div64 (k:Nat) (hi:UInt64) (lo:UInt64) (y:UInt64):Option (UInt64 × UInt64) :=
 bif decide (y=(0:UInt64)) then(none)
  else(
     bif decide (y≤hi) then(none)
   else(bif decide (hi=(0:UInt64)) then(if y≠(0:UInt64) then
     some ((lo / y),(lo % y))
    else none)
    else(if(zaa (zaq y (UInt64.toNat (UInt64.ofInt ((((64:Nat) - (lenN (UInt64.toNat y))):Nat):Int)))) (32:Nat))≠(0:UInt64) then
     bits_Div64_h0 k (zaq y (UInt64.toNat (UInt64.ofInt ((((64:Nat) - (lenN (UInt64.toNat y))):Nat):Int)))) (UInt64.ofInt ((((64:Nat) - (lenN (UInt64.toNat y))):Nat):Int)) (zaa (zaq y (UInt64.toNat (UInt64.ofInt ((((64:Nat) - (lenN (UInt64.toNat y))):Nat):Int)))) (32:Nat)) ((zaq y (UInt64.toNat (UInt64.ofInt ((((64:Nat) - (lenN (UInt64.toNat y))):Nat):Int)))) &&& (4294967295:UInt64)) ((zaq hi (UInt64.toNat (UInt64.ofInt ((((64:Nat) - (lenN (UInt64.toNat y))):Nat):Int)))) ||| (zaa lo (UInt64.toNat ((64:UInt64) - (UInt64.ofInt ((((64:Nat) - (lenN (UInt64.toNat y))):Nat):Int)))))) (zaa (zaq lo (UInt64.toNat (UInt64.ofInt ((((64:Nat) - (lenN (UInt64.toNat y))):Nat):Int)))) (32:Nat)) ((zaq lo (UInt64.toNat (UInt64.ofInt ((((64:Nat) - (lenN (UInt64.toNat y))):Nat):Int)))) &&& (4294967295:UInt64)) (((zaq hi (UInt64.toNat (UInt64.ofInt ((((64:Nat) - (lenN (UInt64.toNat y))):Nat):Int)))) ||| (zaa lo (UInt64.toNat ((64:UInt64) - (UInt64.ofInt ((((64:Nat) - (lenN (UInt64.toNat y))):Nat):Int)))))) / (zaa (zaq y (UInt64.toNat (UInt64.ofInt ((((64:Nat) - (lenN (UInt64.toNat y))):Nat):Int)))) (32:Nat))) (((zaq hi (UInt64.toNat (UInt64.ofInt ((((64:Nat) - (lenN (UInt64.toNat y))):Nat):Int)))) ||| (zaa lo (UInt64.toNat ((64:UInt64) - (UInt64.ofInt ((((64:Nat) - (lenN (UInt64.toNat y))):Nat):Int)))))) - ((((zaq hi (UInt64.toNat (UInt64.ofInt ((((64:Nat) - (lenN (UInt64.toNat y))):Nat):Int)))) ||| (zaa lo (UInt64.toNat ((64:UInt64) - (UInt64.ofInt ((((64:Nat) - (lenN (UInt64.toNat y))):Nat):Int)))))) / (zaa (zaq y (UInt64.toNat (UInt64.ofInt ((((64:Nat) - (lenN (UInt64.toNat y))):Nat):Int)))) (32:Nat)))*(zaa (zaq y (UInt64.toNat (UInt64.ofInt ((((64:Nat) - (lenN (UInt64.toNat y))):Nat):Int)))) (32:Nat))))
    else none)))
theorem zGa {U d Y a b q r:Nat} (hY:Y=a*4294967296+b) (hb:b < 4294967296) (hU:U < Y) (hd:d < 4294967296) (hi:q*a+r=U) (hr:r < 4294967296) (hq:(U*4294967296+d) / Y≤q) :
  (¬ (4294967296≤q∨4294967296*r+d < q*b)→q=(U*4294967296+d) / Y)∧((4294967296≤q∨4294967296*r+d < q*b)→1≤q∧(U*4294967296+d) / Y≤q - 1∧(q - 1)*a+(r+a)=U∧(4294967296≤r+a→q - 1=(U*4294967296+d) / Y)):=by
 have hY0:0 < Y:=by omega
 have qlt:(U*4294967296+d) / Y < 4294967296:=by
  rw[Nat.div_lt_iff_lt_mul hY0]
  have:(U+1)*4294967296≤Y*4294967296:=Nat.mul_le_mul_right _ hU
  omega
 have e:∀ q r,q*a+r=U→(q*Y+4294967296*r=U*4294967296+q*b):=by
  intro q r h
  rw[hY,←h]
  grind
 have up:∀ q r,q*a+r=U→q*b≤4294967296*r+d→q≤(U*4294967296+d) / Y:=by
  intro q r h h2
  rw[Nat.le_div_iff_mul_le hY0]
  have:=e q r h
  omega
 constructor
 ·intro h
  have:=up q r hi (by omega)
  omega
 ·intro h
  have h1:(U*4294967296+d) / Y < q:=by
   rcases h with h | h
   ·omega
   ·rw[Nat.div_lt_iff_lt_mul hY0]
    have:=e q r hi
    omega
  have h2:1≤q:=Nat.lt_of_le_of_lt (Nat.zero_le _) h1
  have h3:(q - 1)*a+(r+a)=U:=by
   obtain ⟨p,rfl⟩:∃ p,q=p+1:=⟨q - 1,by omega⟩
   rw[Nat.add_sub_cancel,←hi,Nat.succ_mul]
   omega
  refine ⟨h2,by omega,h3,fun h4=>?_⟩
  have h5:q - 1 < 4294967296:=by
   by_cases c:q - 1 < 4294967296
   ·exact c
   ·have:4294967296*a≤(q - 1)*a:=Nat.mul_le_mul_right _ (by omega)
    omega
  have h6:(q - 1)*b≤(q - 1)*4294967296:=Nat.mul_le_mul_left _ (by omega)
  have:=up (q - 1) (r+a) h3 (by omega)
  omega
theorem zDb {U d Y a b:Nat} (hY:Y=a*4294967296+b) (ha:0 < a) (hd:d < 4294967296):(U*4294967296+d) / Y≤U / a:=by
 have h:(U*4294967296+d) / Y≤(U*4294967296+d) / (4294967296*a):=Nat.div_le_div_left (by omega) (by omega)
 rw[←Nat.div_div_eq_div_mul,show (U*4294967296+d) / 4294967296=U by omega]at h
 exact h
theorem zFM (a b:UInt64) (h:0 < b.toNat):(a - a / b*b).toNat=a.toNat % b.toNat:=by
 have hm:(a / b*b).toNat=a.toNat / b.toNat*b.toNat:=by
  rw[UInt64.toNat_mul,UInt64.toNat_div]
  exact Nat.mod_eq_of_lt (Nat.lt_of_le_of_lt (Nat.div_mul_le_self _ _) a.toNat_lt)
 have hl:a / b*b≤a:=by
  rw[UInt64.le_iff_toNat_le,hm]
  exact Nat.div_mul_le_self _ _
 rw[UInt64.toNat_sub_of_le _ _ hl,hm]
 have:=Nat.div_add_mod a.toNat b.toNat
 rw[Nat.mul_comm]at this
 omega
theorem zBe (U d q y:UInt64) (h:q.toNat=(U.toNat*4294967296+d.toNat) / y.toNat):(U*4294967296+d) - q*y=UInt64.ofNat ((U.toNat*4294967296+d.toNat) % y.toNat):=by
 have e:U*4294967296+d=q*y+UInt64.ofNat ((U.toNat*4294967296+d.toNat) % y.toNat):=by
  have h2:U*4294967296+d=UInt64.ofNat (U.toNat*4294967296+d.toNat):=by
   rw[UInt64.ofNat_add,UInt64.ofNat_mul,UInt64.ofNat_toNat,UInt64.ofNat_toNat]
   rfl
  have h3:q*y=UInt64.ofNat (q.toNat*y.toNat):=by
   rw[UInt64.ofNat_mul,UInt64.ofNat_toNat,UInt64.ofNat_toNat]
  rw[h2,h3,←UInt64.ofNat_add,h,Nat.div_add_mod']
 rw[e,UInt64.add_comm,UInt64.add_sub_cancel]
theorem zpa {q r a b d:UInt64} (hr:r.toNat < 4294967296) (hd:d.toNat < 4294967296) (hb:b.toNat < 4294967296) {α:Type} (X Z:α) :
  (bif eqb (decide ((4294967296:UInt64)≤q)) false then(bif bif false then true else(decide (((4294967296:UInt64)*r)+d < q*b))then X else Z)else X)=if 4294967296≤q.toNat∨4294967296*r.toNat+d.toNat < q.toNat*b.toNat then X else Z:=by
 by_cases c:4294967296≤q.toNat
 ·rw[if_pos (Or.inl c),decide_eq_true (by rw[UInt64.le_iff_toNat_le]; exact c)]; rfl
 ·rw[decide_eq_false (by rw[UInt64.le_iff_toNat_le]; exact c)]
  have e1:(4294967296*r+d).toNat=4294967296*r.toNat+d.toNat:=by
   rw[UInt64.toNat_add,UInt64.toNat_mul,show (4294967296:UInt64).toNat=4294967296 from rfl]
   omega
  have e2:(q*b).toNat=q.toNat*b.toNat:=by
   rw[UInt64.toNat_mul]
   have:q.toNat*b.toNat≤4294967296*4294967296 - 4294967296:=by
    have h1:q.toNat*b.toNat≤4294967295*b.toNat:=Nat.mul_le_mul_right _ (by omega)
    omega
   omega
  have e3:((4294967296*r+d < q*b))↔(4294967296≤q.toNat∨4294967296*r.toNat+d.toNat < q.toNat*b.toNat):=by
   rw[UInt64.lt_iff_toNat_lt,e1,e2]
   omega
  by_cases c2:4294967296*r+d < q*b
  ·rw[decide_eq_true c2,if_pos (e3.1 c2)]; rfl
  ·rw[decide_eq_false c2,if_neg (fun h=>c2 (e3.2 h))]; rfl
theorem zrs {r a:UInt64} (hr:r.toNat < 4294967296) (ha:a.toNat < 4294967296) {α:Type} (X Z:α) :
  (bif decide ((4294967296:UInt64)≤r+a)then X else Z)=if 4294967296≤r.toNat+a.toNat then X else Z:=by
 have e:(r+a).toNat=r.toNat+a.toNat:=by rw[UInt64.toNat_add]; omega
 have e2:((4294967296:UInt64)≤r+a)↔4294967296≤r.toNat+a.toNat:=by
  rw[UInt64.le_iff_toNat_le,e]; rfl
 by_cases c:4294967296≤r.toNat+a.toNat
 ·rw[if_pos c,zan (e2.2 c)]
 ·rw[if_neg c,zau (fun h=>c (e2.1 h))]
theorem zpg {q:UInt64} (h:1≤q.toNat):(q - 1).toNat=q.toNat - 1:=by
 rw[UInt64.toNat_sub_of_le _ _ (by rw[UInt64.le_iff_toNat_le]; exact h)]
 rfl
theorem zys {x:UInt64} {n:Nat} (h:x.toNat=n):x=UInt64.ofNat n:=by rw[←h,UInt64.ofNat_toNat]
theorem zov (y s yn1 yn0 un0 q1 un21:UInt64) (hY:y.toNat=yn1.toNat*4294967296+yn0.toNat) (ha:yn1.toNat < 4294967296) (hb:yn0.toNat < 4294967296) (hd:un0.toNat < 4294967296) (hU:un21.toNat < y.toNat) :
  ∀ (m:Nat) (q0 rhat:UInt64),q0.toNat*yn1.toNat+rhat.toNat=un21.toNat→rhat.toNat < 4294967296→(un21.toNat*4294967296+un0.toNat) / y.toNat≤q0.toNat→4294967296≤rhat.toNat+m*yn1.toNat →
  Ev (fun k=>bits_Div64_h2 k y s yn1 yn0 un0 q1 rhat un21 q0) (q1*4294967296+UInt64.ofNat ((un21.toNat*4294967296+un0.toNat) / y.toNat),zaa (UInt64.ofNat ((un21.toNat*4294967296+un0.toNat) % y.toNat)) s.toNat)
 | 0,q0,rhat,hi,hr,hq,hm=>by omega
 | m+1,q0,rhat,hi,hr,hq,hm=>by
  obtain ⟨k1,k2⟩:=zGa hY hb hU hd hi hr hq
  by_cases c:4294967296≤q0.toNat∨4294967296*rhat.toNat+un0.toNat < q0.toNat*yn0.toNat
  ·obtain ⟨g1,g2,g3,g4⟩:=k2 c
   by_cases d:4294967296≤rhat.toNat+yn1.toNat
   ·refine Ev.done fun k=>?_
    have e:(q0 - 1).toNat=(un21.toNat*4294967296+un0.toNat) / y.toNat:=by rw[zpg g1]; exact g4 d
    rw[bits_Div64_h2.eq_2,zpa (a:=yn1) hr hd hb,if_pos c,zrs hr ha,if_pos d,zBe _ _ _ _ e,←zys e]
   ·have er:(rhat+yn1).toNat=rhat.toNat+yn1.toNat:=by rw[UInt64.toNat_add]; omega
    refine Ev.step (fun k=>?_) (zov y s yn1 yn0 un0 q1 un21 hY ha hb hd hU m (q0 - 1) (rhat+yn1) (by rw[zpg g1,er]; exact g3) (by omega) (by rw[zpg g1]; exact g2) (by rw[er]; rw[Nat.succ_mul]at hm; omega))
    rw[bits_Div64_h2.eq_2,zpa (a:=yn1) hr hd hb,if_pos c,zrs hr ha,if_neg d]
  ·have e:=k1 c
   refine Ev.done fun k=>?_
   rw[bits_Div64_h2.eq_2,zpa (a:=yn1) hr hd hb,if_neg c,zBe _ _ _ _ e,←zys e]
theorem zqt (y s yn1 yn0 un32 un1 un0 q1:UInt64) (hY:y.toNat=yn1.toNat*4294967296+yn0.toNat) (ha0:2147483648≤yn1.toNat) (ha:yn1.toNat < 4294967296) (hb:yn0.toNat < 4294967296) (hd:un1.toNat < 4294967296) (hd0:un0.toNat < 4294967296)
  (e:q1.toNat=(un32.toNat*4294967296+un1.toNat) / y.toNat) (Q1 R1:Nat) (hQ:Q1=(un32.toNat*4294967296+un1.toNat) / y.toNat) (hR:R1=(un32.toNat*4294967296+un1.toNat) % y.toNat) :
  Ev (
    fun k=>if yn1≠(0:UInt64) then
     bits_Div64_h2 k y s yn1 yn0 un0 q1 ((((un32*(4294967296:UInt64))+un1) - (q1*y)) - (((((un32*(4294967296:UInt64))+un1) - (q1*y)) / yn1)*yn1)) (((un32*(4294967296:UInt64))+un1) - (q1*y)) ((((un32*(4294967296:UInt64))+un1) - (q1*y)) / yn1)
    else none) (UInt64.ofNat Q1*4294967296+UInt64.ofNat ((R1*4294967296+un0.toNat) / y.toNat),zaa (UInt64.ofNat ((R1*4294967296+un0.toNat) % y.toNat)) s.toNat):=by
 have hne:yn1≠0:=by
  intro h
  rw[h]at ha0
  exact absurd ha0 (by decide)
 refine Ev.same (fun k=>if_pos hne) ?_
 have hy0:0 < y.toNat:=by omega
 have hRl:R1 < y.toNat:=by rw[hR]; exact Nat.mod_lt _ hy0
 have hRw:(UInt64.ofNat R1).toNat=R1:=by
  have:=y.toNat_lt
  rw[UInt64.toNat_ofNat',Nat.mod_eq_of_lt (by omega)]
 rw[zBe _ _ _ _ e,←hR]
 have rest:=zFM (UInt64.ofNat R1) yn1 (by omega)
 have hml:=Nat.mod_lt (UInt64.ofNat R1).toNat (show 0 < yn1.toNat by omega)
 have:=zov y s yn1 yn0 un0 q1 (UInt64.ofNat R1) hY ha hb hd0 (by rw[hRw]; exact hRl) 2 (UInt64.ofNat R1 / yn1) (UInt64.ofNat R1 - UInt64.ofNat R1 / yn1*yn1)
  (by rw[rest,UInt64.toNat_div,Nat.mul_comm]; exact Nat.div_add_mod _ _) (by rw[rest]; omega) (by rw[UInt64.toNat_div]; exact zDb hY (by omega) hd0) (by omega)
 rw[hRw]at this
 rw[hQ,←zys e]
 exact this
theorem zoa (y s yn1 yn0 un32 un1 un0:UInt64) (hY:y.toNat=yn1.toNat*4294967296+yn0.toNat) (ha0:2147483648≤yn1.toNat) (ha:yn1.toNat < 4294967296) (hb:yn0.toNat < 4294967296) (hd:un1.toNat < 4294967296) (hd0:un0.toNat < 4294967296) (hU:un32.toNat < y.toNat)
  (Q1 R1:Nat) (hQ:Q1=(un32.toNat*4294967296+un1.toNat) / y.toNat) (hR:R1=(un32.toNat*4294967296+un1.toNat) % y.toNat) :
  ∀ (m:Nat) (q1 rhat:UInt64),q1.toNat*yn1.toNat+rhat.toNat=un32.toNat→rhat.toNat < 4294967296→(un32.toNat*4294967296+un1.toNat) / y.toNat≤q1.toNat→4294967296≤rhat.toNat+m*yn1.toNat →
  Ev (fun k=>bits_Div64_h0 k y s yn1 yn0 un32 un1 un0 q1 rhat) (UInt64.ofNat Q1*4294967296+UInt64.ofNat ((R1*4294967296+un0.toNat) / y.toNat),zaa (UInt64.ofNat ((R1*4294967296+un0.toNat) % y.toNat)) s.toNat)
 | 0,q1,rhat,hi,hr,hq,hm=>by omega
 | m+1,q1,rhat,hi,hr,hq,hm=>by
  obtain ⟨k1,k2⟩:=zGa hY hb hU hd hi hr hq
  by_cases c:4294967296≤q1.toNat∨4294967296*rhat.toNat+un1.toNat < q1.toNat*yn0.toNat
  ·obtain ⟨g1,g2,g3,g4⟩:=k2 c
   by_cases d:4294967296≤rhat.toNat+yn1.toNat
   ·have e:(q1 - 1).toNat=(un32.toNat*4294967296+un1.toNat) / y.toNat:=by rw[zpg g1]; exact g4 d
    refine Ev.step (fun k=>?_) (zqt y s yn1 yn0 un32 un1 un0 (q1 - 1) hY ha0 ha hb hd hd0 e Q1 R1 hQ hR)
    rw[bits_Div64_h0.eq_2,zpa (a:=yn1) hr hd hb,if_pos c,zrs hr ha,if_pos d]
   ·have er:(rhat+yn1).toNat=rhat.toNat+yn1.toNat:=by rw[UInt64.toNat_add]; omega
    refine Ev.step (fun k=>?_) (zoa y s yn1 yn0 un32 un1 un0 hY ha0 ha hb hd hd0 hU Q1 R1 hQ hR m (q1 - 1) (rhat+yn1) (by rw[zpg g1,er]; exact g3) (by omega) (by rw[zpg g1]; exact g2) (by rw[er]; rw[Nat.succ_mul]at hm; omega))
    rw[bits_Div64_h0.eq_2,zpa (a:=yn1) hr hd hb,if_pos c,zrs hr ha,if_neg d]
  ·have e:=k1 c
   refine Ev.step (fun k=>?_) (zqt y s yn1 yn0 un32 un1 un0 q1 hY ha0 ha hb hd hd0 e Q1 R1 hQ hR)
   rw[bits_Div64_h0.eq_2,zpa (a:=yn1) hr hd hb,if_neg c]
theorem zJw {Y:Nat} (hY:0 < Y) (A c:Nat):(A*4294967296+c) / Y=A / Y*4294967296+(A % Y*4294967296+c) / Y∧(A*4294967296+c) % Y=(A % Y*4294967296+c) % Y:=by
 have h:=Nat.div_add_mod A Y
 have e:A*4294967296+c=Y*(A / Y*4294967296)+(A % Y*4294967296+c):=by
  have:A*4294967296=(Y*(A / Y)+A % Y)*4294967296:=by rw[h]
  rw[this]
  grind
 constructor
 ·rw[e,Nat.mul_add_div hY]
 ·rw[e,Nat.mul_add_mod]
theorem zrx (hi lo y:UInt64) (h:hi.toNat < y.toNat):∃ k,bits_Div64 k hi lo y=some (UInt64.ofNat ((hi.toNat*18446744073709551616+lo.toNat) / y.toNat),UInt64.ofNat ((hi.toNat*18446744073709551616+lo.toNat) % y.toNat)):=by
 show Ev (fun k=>bits_Div64 k hi lo y) _
 refine Ev.same (fun k=>bits_Div64.eq_1 k hi lo y) ?_
 have hyl:=y.toNat_lt
 have hll:=lo.toNat_lt
 have c0:¬ (y=0):=by
  intro e
  rw[e]at h
  exact absurd h (Nat.not_lt_zero _)
 have c1:¬ (y≤hi):=by
  rw[UInt64.le_iff_toNat_le]; omega
 refine Ev.same (fun k=>by rw[zau c0,zau c1]) ?_
 by_cases c2:hi=0
 ·refine Ev.done0 fun k=>?_
  rw[zan c2,if_pos c0,c2,show (0:UInt64).toNat=0 from rfl,Nat.zero_mul,Nat.zero_add,←UInt64.toNat_div,←UInt64.toNat_mod,UInt64.ofNat_toNat,UInt64.ofNat_toNat]
 refine Ev.same (fun k=>zau c2) ?_
 have hL:lenN y.toNat≤64:=zAB y
 have hY1:y.toNat < 2 ^ lenN y.toNat:=zc2.1 (Nat.le_refl _)
 have hL0:1≤lenN y.toNat:=by
  by_cases c:1≤lenN y.toNat
  ·exact c
  ·rw[show lenN y.toNat=0 by omega]at hY1
   rw[Nat.pow_zero]at hY1
   omega
 have hY0:2 ^ (lenN y.toNat - 1)≤y.toNat:=by
  by_cases c:2 ^ (lenN y.toNat - 1)≤y.toNat
  ·exact c
  ·have:=zc2.2 (show y.toNat < 2 ^ (lenN y.toNat - 1) by omega)
   omega
 obtain ⟨S,hS,hS2⟩:∃ S,S=64 - lenN y.toNat∧lenN y.toNat=64 - S:=⟨64 - lenN y.toNat,rfl,by omega⟩
 rw[←hS]
 have hS3:S≤63:=by omega
 have sv:(UInt64.ofInt ((S:Nat):Int)).toNat=S:=zto (by omega)
 have pS:0 < 2 ^ S:=Nat.two_pow_pos S
 have pw:2 ^ (64 - S)*2 ^ S=18446744073709551616:=by
  rw[←Nat.pow_add,show 64 - S+S=64 by omega]
 have pw1:2 ^ (64 - S - 1)*2 ^ S=9223372036854775808:=by
  rw[←Nat.pow_add,show 64 - S - 1+S=63 by omega]
 have yS:y.toNat*2 ^ S < 18446744073709551616:=by
  rw[←pw,←hS2]
  exact Nat.mul_lt_mul_of_pos_right hY1 pS
 have yS0:9223372036854775808≤y.toNat*2 ^ S:=by
  rw[←pw1,←hS2]
  exact Nat.mul_le_mul_right _ hY0
 have shl:∀ x:UInt64,(zaq x S).toNat=x.toNat*2 ^ S % 18446744073709551616:=by
  intro x
  unfold zaq
  rw[UInt64.toNat_ofNat',Nat.min_eq_left (by omega)]
 have yv:(zaq y S).toNat=y.toNat*2 ^ S:=by rw[shl,Nat.mod_eq_of_lt yS]
 have hiS:hi.toNat*2 ^ S+2 ^ S≤y.toNat*2 ^ S:=by
  rw[←Nat.succ_mul]
  exact Nat.mul_le_mul_right _ h
 have s64:((64:UInt64) - UInt64.ofInt ((S:Nat):Int)).toNat=64 - S:=by
  rw[UInt64.toNat_sub,sv,show (64:UInt64).toNat=64 from rfl]
  omega
 have lo1:(zaa lo (64 - S)).toNat=lo.toNat / 2 ^ (64 - S):=zhc _ _ (by omega)
 have lo2:lo.toNat*2 ^ S / 18446744073709551616=lo.toNat / 2 ^ (64 - S):=by
  rw[←pw,Nat.mul_div_mul_right _ _ pS]
 have lo3:lo.toNat / 2 ^ (64 - S) < 2 ^ S:=by
  rw[Nat.div_lt_iff_lt_mul (Nat.two_pow_pos _),Nat.mul_comm,pw]
  exact hll
 have uv:(zaq hi S ||| zaa lo (64 - S)).toNat=hi.toNat*2 ^ S+lo.toNat / 2 ^ (64 - S):=by
  rw[UInt64.toNat_or,lo1,shl,Nat.mod_eq_of_lt (by omega),Nat.mul_comm,Nat.two_pow_add_eq_or_of_lt lo3]
 have and32:∀ x:UInt64,(x &&& 4294967295).toNat=x.toNat % 4294967296:=by
  intro x
  rw[UInt64.toNat_and,show (4294967295:UInt64).toNat=2 ^ 32 - 1 from rfl,Nat.and_two_pow_sub_one_eq_mod]
 have shr32:∀ x:UInt64,(zaa x 32).toNat=x.toNat / 4294967296:=fun x=>zhc _ _ (by omega)
 rw[sv,s64]
 generalize ey:zaq y S=Y at *
 generalize eu:zaq hi S ||| zaa lo (64 - S)=U at *
 generalize el:zaq lo S=L at *
 have hYl:=Y.toNat_lt
 have lv:L.toNat=lo.toNat*2 ^ S % 18446744073709551616:=by rw[←el]; exact shl lo
 have hLl:=L.toNat_lt
 have a0:2147483648≤(zaa Y 32).toNat:=by rw[shr32]; omega
 have hne:zaa Y 32≠0:=by
  intro e
  rw[e]at a0
  exact absurd a0 (by decide)
 refine Ev.same (fun k=>if_pos hne) ?_
 have hUl:U.toNat < Y.toNat:=by rw[uv,yv]; omega
 have rest:=zFM U (zaa Y 32) (by omega)
 have hml:=Nat.mod_lt U.toNat (show 0 < (zaa Y 32).toNat by omega)
 have eY:Y.toNat=(zaa Y 32).toNat*4294967296+(Y &&& 4294967295).toNat:=by rw[shr32,and32]; omega
 have al:(zaa Y 32).toNat < 4294967296:=by rw[shr32]; omega
 have bl:(Y &&& 4294967295).toNat < 4294967296:=by rw[and32]; omega
 have dl:(zaa L 32).toNat < 4294967296:=by rw[shr32]; omega
 have dl0:(L &&& 4294967295).toNat < 4294967296:=by rw[and32]; omega
 have main:=zoa Y (UInt64.ofInt ((S:Nat):Int)) (zaa Y 32) (Y &&& 4294967295) U (zaa L 32) (L &&& 4294967295) eY a0 al bl dl dl0 hUl _ _ rfl rfl 2 (U / zaa Y 32) (U - U / zaa Y 32*zaa Y 32)
  (by rw[rest,UInt64.toNat_div]; exact Nat.div_add_mod' _ _) (by rw[rest]; omega) (by rw[UInt64.toNat_div]; exact zDb eY (by omega) dl) (by omega)
 have hY00:0 < Y.toNat:=by omega
 have eN:(U.toNat*4294967296+(zaa L 32).toNat)*4294967296+(L &&& 4294967295).toNat=(hi.toNat*18446744073709551616+lo.toNat)*2 ^ S:=by
  rw[shr32,and32,uv,←lo2,lv,Nat.add_mul (hi.toNat*18446744073709551616)]
  have:=Nat.div_add_mod (lo.toNat*2 ^ S) 18446744073709551616
  have e3:hi.toNat*18446744073709551616*2 ^ S=hi.toNat*2 ^ S*18446744073709551616:=by grind
  rw[e3]
  omega
 have two:=zJw hY00 (U.toNat*4294967296+(zaa L 32).toNat) (L &&& 4294967295).toNat
 rw[eN,yv,Nat.mul_div_mul_right _ _ pS,Nat.mul_mod_mul_right]at two
 rw[yv]at main
 have q1:UInt64.ofNat ((U.toNat*4294967296+(zaa L 32).toNat) / (y.toNat*2 ^ S))*4294967296+UInt64.ofNat (((U.toNat*4294967296+(zaa L 32).toNat) % (y.toNat*2 ^ S)*4294967296+(L &&& 4294967295).toNat) / (y.toNat*2 ^ S))=UInt64.ofNat ((hi.toNat*18446744073709551616+lo.toNat) / y.toNat):=by
  rw[two.1,UInt64.ofNat_add,UInt64.ofNat_mul]
  rfl
 have q2:zaa (UInt64.ofNat (((U.toNat*4294967296+(zaa L 32).toNat) % (y.toNat*2 ^ S)*4294967296+(L &&& 4294967295).toNat) % (y.toNat*2 ^ S))) (UInt64.ofInt ((S:Nat):Int)).toNat=UInt64.ofNat ((hi.toNat*18446744073709551616+lo.toNat) % y.toNat):=by
  have hlt:=Nat.mod_lt (hi.toNat*18446744073709551616+lo.toNat) (show 0 < y.toNat by omega)
  have hlt2:(hi.toNat*18446744073709551616+lo.toNat) % y.toNat*2 ^ S < y.toNat*2 ^ S:=Nat.mul_lt_mul_of_pos_right hlt pS
  rw[←two.2,sv]
  generalize (hi.toNat*18446744073709551616+lo.toNat) % y.toNat=R at hlt hlt2
  have i1:R*2 ^ S < 2 ^ 64:=by omega
  have i2:R < 2 ^ 64:=by omega
  apply UInt64.toNat_inj.1
  rw[zhc _ _ (by omega),UInt64.toNat_ofNat',UInt64.toNat_ofNat',Nat.mod_eq_of_lt i1,Nat.mod_eq_of_lt i2,Nat.mul_div_cancel _ pS]
 rw[q1,q2]at main
 exact main
end
end Go.Proofs.YtnolgfdjcipmmaaDoor.M
namespace Go.Proofs.YtnolgfdjcipmmaaDoor.M
open Go
noncomputable section
set_option maxRecDepth 100000
set_option maxHeartbeats 0
noncomputable def zen:Tbl:=[]
noncomputable def zg1:CfgW:=mkC Tryd.prog theG zen 17 0 false
def zd8:Nat→List Nat:=fun i=>[]
noncomputable abbrev zeq:Code:=Tryd.f92.body.getD .skip
noncomputable abbrev zg6:List ResultVar:=Tryd.f92.results.toList
def zd7:List Nat:=[]
def zcy (r:UInt32):CallOut:=⟨.pv (.sc .u32 r),[],true,[]⟩
theorem zmQ (x_0:UInt32) (k_1:Int) (Q:CallOut→Prop):zac zg1 zd8 zg6 zd7 zeq [.pv (.sc .u32 x_0),.pv (.sc .i k_1)] [] Q =
  (Q (zcy ((zcb x_0 (UInt64.toNat ((UInt64.ofInt k_1) &&& (31:UInt64)))) ||| (zaP x_0 (UInt64.toNat ((32:UInt64) - ((UInt64.ofInt k_1) &&& (31:UInt64)))))))):=by kernel_rfl
theorem znj (x_0:UInt32) (k_1:Int) {Q:CallOut→Prop} (h:Q (zcy (bits_RotateLeft32 x_0 k_1))):zac zg1 zd8 zg6 zd7 zeq [.pv (.sc .u32 x_0),.pv (.sc .i k_1)] [] Q :=
 Eq.mpr (zmQ x_0 k_1 Q) (have h:=Eq.mp (congrArg (fun r=>Q (zcy r)) (bits_RotateLeft32.eq_1 x_0 k_1)) h; h)
def zc6:Ans
 | [.pv (.sc .u32 x_0),.pv (.sc .i k_1)],[]=>some (none,zcy (bits_RotateLeft32 x_0 k_1))
 | _,_=>none
theorem zkh:TblOK Tryd.prog theG zen:=.nil
theorem zlW:FnOK Tryd.prog theG 92 (unW zc6):=by
 refine FnOK.ofC (T:=zen) (nt:=17) (np:=0) (mv:=[]) (nf:=false) (hs:=zd7) (fn:=Tryd.f92) (body:=zeq) zkh (by kernel_rfl) (by kernel_rfl) (by kernel_rfl) (by kernel_rfl) (c:=zc6) (lv:=zd8) ?_
 intro xs mem p out h hp
 unfold zc6 at h
 split at h
 ·cases h
  exact znj _ _ rfl
 ·cases h
end
end Go.Proofs.YtnolgfdjcipmmaaDoor.M
namespace Go.Proofs.YtnolgfdjcipmmaaDoor.M
open Go
noncomputable section
set_option maxRecDepth 100000
set_option maxHeartbeats 0
noncomputable def zk2:Tbl:=[]
noncomputable def zqG:CfgW:=mkC Tryd.prog theG zk2 25 0 false
def ziO:Nat→List Nat:=fun i=>[]
noncomputable abbrev zkv:Code:=Tryd.f79.body.getD .skip
noncomputable abbrev zqI:List ResultVar:=Tryd.f79.results.toList
def zjb:List Nat:=[]
def zaJ (r:Int):CallOut:=⟨.pv (.sc .i r),[],true,[]⟩
theorem zzp (x_0:UInt64) (Q:CallOut→Prop):zac zqG ziO zqI zjb zkv [.pv (.sc .u64 x_0)] [] Q =
 (let s0:=(((UInt8.toNat (UInt64.toUInt8 (zaa (zaa (zaa x_0 (32:Nat)) (16:Nat)) (8:Nat)))):Nat):Int);let s1:=(((UInt8.toNat (UInt64.toUInt8 (zaa (zaa x_0 (32:Nat)) (16:Nat)))):Nat):Int);let s2:=(((UInt8.toNat (UInt64.toUInt8 (zaa (zaa x_0 (32:Nat)) (8:Nat)))):Nat):Int);let s3:=(((UInt8.toNat (UInt64.toUInt8 (zaa (zaa x_0 (16:Nat)) (8:Nat)))):Nat):Int);let s4:=(((UInt8.toNat (UInt64.toUInt8 (zaa x_0 (32:Nat)))):Nat):Int);let s5:=(((UInt8.toNat (UInt64.toUInt8 (zaa x_0 (16:Nat)))):Nat):Int);let s6:=(((UInt8.toNat (UInt64.toUInt8 (zaa x_0 (8:Nat)))):Nat):Int);(zaf (decide ((4294967296:UInt64)≤x_0)) (zaf (decide ((65536:UInt64)≤(zaa x_0 (32:Nat)))) (zaf (decide ((256:UInt64)≤(zaa (zaa x_0 (32:Nat)) (16:Nat)))) ((((0:Int)≤ s0 )∧( s0  < (((List.length (bits_Len64_tab0)):Nat):Int)))∧(Q (zaJ (w64 ((56:Int)+(((UInt8.toNat (List.getD (bits_Len64_tab0) (Int.toNat  s0 ) (0:UInt8))):Nat):Int)))))) ((((0:Int)≤ s1 )∧( s1  < (((List.length (bits_Len64_tab0)):Nat):Int)))∧(Q (zaJ (w64 ((48:Int)+(((UInt8.toNat (List.getD (bits_Len64_tab0) (Int.toNat  s1 ) (0:UInt8))):Nat):Int))))))) (zaf (decide ((256:UInt64)≤(zaa x_0 (32:Nat)))) ((((0:Int)≤ s2 )∧( s2  < (((List.length (bits_Len64_tab0)):Nat):Int)))∧(Q (zaJ (w64 ((40:Int)+(((UInt8.toNat (List.getD (bits_Len64_tab0) (Int.toNat  s2 ) (0:UInt8))):Nat):Int)))))) ((((0:Int)≤ s4 )∧( s4  < (((List.length (bits_Len64_tab0)):Nat):Int)))∧(Q (zaJ (w64 ((32:Int)+(((UInt8.toNat (List.getD (bits_Len64_tab0) (Int.toNat  s4 ) (0:UInt8))):Nat):Int)))))))) (zaf (decide ((65536:UInt64)≤x_0)) (zaf (decide ((256:UInt64)≤(zaa x_0 (16:Nat)))) ((((0:Int)≤ s3 )∧( s3  < (((List.length (bits_Len64_tab0)):Nat):Int)))∧(Q (zaJ (w64 ((24:Int)+(((UInt8.toNat (List.getD (bits_Len64_tab0) (Int.toNat  s3 ) (0:UInt8))):Nat):Int)))))) ((((0:Int)≤ s5 )∧( s5  < (((List.length (bits_Len64_tab0)):Nat):Int)))∧(Q (zaJ (w64 ((16:Int)+(((UInt8.toNat (List.getD (bits_Len64_tab0) (Int.toNat  s5 ) (0:UInt8))):Nat):Int))))))) (zaf (decide ((256:UInt64)≤x_0)) ((((0:Int)≤ s6 )∧( s6  < (((List.length (bits_Len64_tab0)):Nat):Int)))∧(Q (zaJ (w64 ((8:Int)+(((UInt8.toNat (List.getD (bits_Len64_tab0) (Int.toNat  s6 ) (0:UInt8))):Nat):Int)))))) ((((0:Int)≤(((UInt8.toNat (UInt64.toUInt8 x_0)):Nat):Int))∧((((UInt8.toNat (UInt64.toUInt8 x_0)):Nat):Int) < (((List.length (bits_Len64_tab0)):Nat):Int)))∧(Q (zaJ (w64 ((0:Int)+(((UInt8.toNat (List.getD (bits_Len64_tab0) (Int.toNat (((UInt8.toNat (UInt64.toUInt8 x_0)):Nat):Int)) (0:UInt8))):Nat):Int)))))))))):=by kernel_rfl
theorem zzR (x_0:UInt64) {r} {Q:CallOut→Prop} (h:bits_Len64 x_0=some r) (hQ:Q (zaJ r)):zac zqG ziO zqI zjb zkv [.pv (.sc .u64 x_0)] [] Q :=
 Eq.mpr (zzp x_0 Q) (have h:=(bits_Len64.eq_1 x_0).symm.trans h; zab h (fun h=>zab h (fun h=>zab h (fun h=>zad h fun hc0 h=>zag (Q:=Q) (e:=zaJ) h hQ) (fun h=>zad h fun hc0 h=>zag (Q:=Q) (e:=zaJ) h hQ)) (fun h=>zab h (fun h=>zad h fun hc0 h=>zag (Q:=Q) (e:=zaJ) h hQ) (fun h=>zad h fun hc0 h=>zag (Q:=Q) (e:=zaJ) h hQ))) (fun h=>zab h (fun h=>zab h (fun h=>zad h fun hc0 h=>zag (Q:=Q) (e:=zaJ) h hQ) (fun h=>zad h fun hc0 h=>zag (Q:=Q) (e:=zaJ) h hQ)) (fun h=>zab h (fun h=>zad h fun hc0 h=>zag (Q:=Q) (e:=zaJ) h hQ) (fun h=>zad h fun hc0 h=>zag (Q:=Q) (e:=zaJ) h hQ))))
def zfZ:Ans
 | [.pv (.sc .u64 x_0)],[]=>some (none,zaJ ((((lenN x_0.toNat):Nat):Int)))
 | _,_=>none
theorem zuc:TblOK Tryd.prog theG zk2:=.nil
theorem zod:FnOK Tryd.prog theG 79 (unW zfZ):=by
 refine FnOK.ofC (T:=zk2) (nt:=25) (np:=0) (mv:=[]) (nf:=false) (hs:=zjb) (fn:=Tryd.f79) (body:=zkv) zuc (by kernel_rfl) (by kernel_rfl) (by kernel_rfl) (by kernel_rfl) (c:=zfZ) (lv:=ziO) ?_
 intro xs mem p out h hp
 unfold zfZ at h
 split at h
 ·cases h
  exact zzR _ (zsN _) rfl
 ·cases h
end
end Go.Proofs.YtnolgfdjcipmmaaDoor.M
namespace Go.Proofs.YtnolgfdjcipmmaaDoor.M
open Go
noncomputable section
set_option maxRecDepth 100000
set_option maxHeartbeats 0
noncomputable def zlc:Tbl:=[]
noncomputable def zqE:CfgW:=mkC Tryd.prog theG zlc 51 0 false
def zjA:Nat→List Nat:=fun i=>[]
noncomputable abbrev zj3:Code:=Tryd.f84.body.getD .skip
noncomputable abbrev zqg:List ResultVar:=Tryd.f84.results.toList
def zjH:List Nat:=[]
def zec (r:UInt64 × UInt64):CallOut:=⟨.tup [.pv (.sc .u64 r.1),.pv (.sc .u64 r.2)],[],true,[]⟩
theorem zAz (x_0:UInt64) (y:UInt64) (Q:CallOut→Prop):zac zqE zjA zqg zjH zj3 [.pv (.sc .u64 x_0),.pv (.sc .u64 y)] [] Q =
  (Q (zec (((((zaa x_0 (32:Nat))*(zaa y (32:Nat)))+(zaa (((zaa x_0 (32:Nat))*(y &&& (4294967295:UInt64)))+(zaa ((x_0 &&& (4294967295:UInt64))*(y &&& (4294967295:UInt64))) (32:Nat))) (32:Nat)))+(zaa (((((zaa x_0 (32:Nat))*(y &&& (4294967295:UInt64)))+(zaa ((x_0 &&& (4294967295:UInt64))*(y &&& (4294967295:UInt64))) (32:Nat))) &&& (4294967295:UInt64))+((x_0 &&& (4294967295:UInt64))*(zaa y (32:Nat)))) (32:Nat))),(x_0*y)))):=by kernel_rfl
theorem zzm (x_0:UInt64) (y:UInt64) {Q:CallOut→Prop} (h:Q (zec (bits_Mul64 x_0 y))):zac zqE zjA zqg zjH zj3 [.pv (.sc .u64 x_0),.pv (.sc .u64 y)] [] Q :=
 Eq.mpr (zAz x_0 y Q) (have h:=Eq.mp (congrArg (fun r=>Q (zec r)) (bits_Mul64.eq_1 x_0 y)) h; h)
def zhD:Ans
 | [.pv (.sc .u64 x_0),.pv (.sc .u64 y)],[]=>some (none,zec ((zyb x_0 y,zq8 x_0 y)))
 | _,_=>none
theorem ztO:TblOK Tryd.prog theG zlc:=.nil
theorem zyq:FnOK Tryd.prog theG 84 (unW zhD):=by
 refine FnOK.ofC (T:=zlc) (nt:=51) (np:=0) (mv:=[]) (nf:=false) (hs:=zjH) (fn:=Tryd.f84) (body:=zj3) ztO (by kernel_rfl) (by kernel_rfl) (by kernel_rfl) (by kernel_rfl) (c:=zhD) (lv:=zjA) ?_
 intro xs mem p out h hp
 unfold zhD at h
 split at h
 ·cases h
  exact zzm _ _ (congrArg zec (zth _ _))
 ·cases h
end
end Go.Proofs.YtnolgfdjcipmmaaDoor.M
namespace Go.Proofs.YtnolgfdjcipmmaaDoor.M
open Go
noncomputable section
set_option maxRecDepth 100000
set_option maxHeartbeats 0
noncomputable def zdM:Tbl:=[(79,[],zfZ)]
noncomputable def zgf:CfgW:=mkC Tryd.prog theG zdM 6 0 false
def zdA:Nat→List Nat:=fun i=>[]
noncomputable abbrev zdH:Code:=Tryd.f91.body.getD .skip
noncomputable abbrev zfW:List ResultVar:=Tryd.f91.results.toList
def zdB:List Nat:=[]
def zbC (r:Int):CallOut:=⟨.pv (.sc .i r),[],true,[]⟩
theorem zlg (x_0:UInt64) (Q:CallOut→Prop):zac zgf zdA zfW zdB zdH [.pv (.sc .u64 x_0)] [] Q =
  (Q (zbC (w64 ((64:Int) - (((lenN (UInt64.toNat x_0)):Nat):Int))))):=by kernel_rfl
theorem zkP (x_0:UInt64) {Q:CallOut→Prop} (h:Q (zbC (bits_LeadingZeros64 x_0))):zac zgf zdA zfW zdB zdH [.pv (.sc .u64 x_0)] [] Q :=
 Eq.mpr (zlg x_0 Q) (have h:=Eq.mp (congrArg (fun r=>Q (zbC r)) (bits_LeadingZeros64.eq_1 x_0)) h; h)
def zcF:Ans
 | [.pv (.sc .u64 x_0)],[]=>some (none,zbC (((64 - lenN x_0.toNat:Nat):Int)))
 | _,_=>none
theorem ziV:TblOK Tryd.prog theG zdM:=.cons ⟨by kernel_rfl,zod⟩ (.nil)
theorem zjZ:FnOK Tryd.prog theG 91 (unW zcF):=by
 refine FnOK.ofC (T:=zdM) (nt:=6) (np:=0) (mv:=[]) (nf:=false) (hs:=zdB) (fn:=Tryd.f91) (body:=zdH) ziV (by kernel_rfl) (by kernel_rfl) (by kernel_rfl) (by kernel_rfl) (c:=zcF) (lv:=zdA) ?_
 intro xs mem p out h hp
 unfold zcF at h
 split at h
 ·cases h
  exact zkP _ (congrArg zbC (ziE _))
 ·cases h
end
end Go.Proofs.YtnolgfdjcipmmaaDoor.M
namespace Go.Proofs.YtnolgfdjcipmmaaDoor.M
open Go
noncomputable section
set_option maxRecDepth 100000
set_option maxHeartbeats 0
noncomputable def zkG:Tbl:=[(91,[],zcF)]
noncomputable def zaz:CfgW:=mkC Tryd.prog theG zkG 135 0 false
def za2:Nat→List Nat:=fun i=>bif Nat.beq i 2 then [2,8,9,10,14,15,16,17,18]else bif Nat.beq i 0 then [2,8,9,10,11,13,14,15,16]else []
noncomputable abbrev zbc:Code:=Tryd.f85.body.getD .skip
noncomputable abbrev zbn:List ResultVar:=Tryd.f85.results.toList
def za1:List Nat:=[]
def zbf (r:UInt64 × UInt64):CallOut:=⟨.tup [.pv (.sc .u64 r.1),.pv (.sc .u64 r.2)],[],true,[]⟩
def zeX (y:UInt64) (s:UInt64) (yn1:UInt64) (yn0:UInt64) (un32:UInt64) (un1:UInt64) (un0:UInt64) (q1:UInt64) (rhat:UInt64):St:=⟨[(2,.pv (.sc .u64 y)),(8,.pv (.sc .u64 s)),(9,.pv (.sc .u64 yn1)),(10,.pv (.sc .u64 yn0)),(11,.pv (.sc .u64 un32)),(13,.pv (.sc .u64 un1)),(14,.pv (.sc .u64 un0)),(15,.pv (.sc .u64 q1)),(16,.pv (.sc .u64 rhat))],[]⟩
def zdb (y:UInt64) (s:UInt64) (yn1:UInt64) (yn0:UInt64) (un0:UInt64) (q1:UInt64) (rhat:UInt64) (un21:UInt64) (q0:UInt64):St:=⟨[(2,.pv (.sc .u64 y)),(8,.pv (.sc .u64 s)),(9,.pv (.sc .u64 yn1)),(10,.pv (.sc .u64 yn0)),(14,.pv (.sc .u64 un0)),(15,.pv (.sc .u64 q1)),(16,.pv (.sc .u64 rhat)),(17,.pv (.sc .u64 un21)),(18,.pv (.sc .u64 q0))],[]⟩
theorem zww (y:UInt64) (s:UInt64) (yn1:UInt64) (yn0:UInt64) (un32:UInt64) (un1:UInt64) (un0:UInt64) (q1:UInt64) (rhat:UInt64) (Q:CallOut→Prop):zas zaz za2 [true,true,true,true,true,true,true,true,true,true,true,true,true,true,false,false] zbc (zeX y s yn1 yn0 un32 un1 un0 q1 rhat) (fnK zaz zbn za1 Q) =
 (let s0:=(zaf (decide ((4294967296:UInt64)≤(rhat+yn1))) ((yn1≠(0:UInt64))∧(zah zaz za2 [true,true,true,true,true,true,true,true,true,true,true,true,true,true,true,true,true,true,false,false] zbc (zdb y s yn1 yn0 un0 (q1 - (1:UInt64)) ((((un32*(4294967296:UInt64))+un1) - ((q1 - (1:UInt64))*y)) - (((((un32*(4294967296:UInt64))+un1) - ((q1 - (1:UInt64))*y)) / yn1)*yn1)) (((un32*(4294967296:UInt64))+un1) - ((q1 - (1:UInt64))*y)) ((((un32*(4294967296:UInt64))+un1) - ((q1 - (1:UInt64))*y)) / yn1)) (fnK zaz zbn za1 Q))) (zah zaz za2 [true,true,true,true,true,true,true,true,true,true,true,true,true,true,false,false] zbc (zeX y s yn1 yn0 un32 un1 un0 (q1 - (1:UInt64)) (rhat+yn1)) (fnK zaz zbn za1 Q)));(zaf (eqb (decide ((4294967296:UInt64)≤q1)) false) (zaf (bif false then true else(decide ((((4294967296:UInt64)*rhat)+un1) < (q1*yn0))))  s0  ((yn1≠(0:UInt64))∧(zah zaz za2 [true,true,true,true,true,true,true,true,true,true,true,true,true,true,true,true,true,true,false,false] zbc (zdb y s yn1 yn0 un0 q1 ((((un32*(4294967296:UInt64))+un1) - (q1*y)) - (((((un32*(4294967296:UInt64))+un1) - (q1*y)) / yn1)*yn1)) (((un32*(4294967296:UInt64))+un1) - (q1*y)) ((((un32*(4294967296:UInt64))+un1) - (q1*y)) / yn1)) (fnK zaz zbn za1 Q))))  s0 )):=by kernel_rfl
theorem zw8 (y:UInt64) (s:UInt64) (yn1:UInt64) (yn0:UInt64) (un0:UInt64) (q1:UInt64) (rhat:UInt64) (un21:UInt64) (q0:UInt64) (Q:CallOut→Prop):zas zaz za2 [true,true,true,true,true,true,true,true,true,true,true,true,true,true,true,true,true,true,false,false] zbc (zdb y s yn1 yn0 un0 q1 rhat un21 q0) (fnK zaz zbn za1 Q) =
 (let s0:=(zaf (decide ((4294967296:UInt64)≤(rhat+yn1))) (Q (zbf (((q1*(4294967296:UInt64))+(q0 - (1:UInt64))),(zaa (((un21*(4294967296:UInt64))+un0) - ((q0 - (1:UInt64))*y)) (UInt64.toNat s))))) (zah zaz za2 [true,true,true,true,true,true,true,true,true,true,true,true,true,true,true,true,true,true,false,false] zbc (zdb y s yn1 yn0 un0 q1 (rhat+yn1) un21 (q0 - (1:UInt64))) (fnK zaz zbn za1 Q)));(zaf (eqb (decide ((4294967296:UInt64)≤q0)) false) (zaf (bif false then true else(decide ((((4294967296:UInt64)*rhat)+un0) < (q0*yn0))))  s0  (Q (zbf (((q1*(4294967296:UInt64))+q0),(zaa (((un21*(4294967296:UInt64))+un0) - (q0*y)) (UInt64.toNat s))))))  s0 )):=by kernel_rfl
theorem ze5 {r:UInt64 × UInt64} {Q:CallOut→Prop} (hQ:Q (zbf r)):∀ k:Nat,(∀ (y:UInt64) (s:UInt64) (yn1:UInt64) (yn0:UInt64) (un0:UInt64) (q1:UInt64) (rhat:UInt64) (un21:UInt64) (q0:UInt64),bits_Div64_h2 k y s yn1 yn0 un0 q1 rhat un21 q0=some r→zah zaz za2 [true,true,true,true,true,true,true,true,true,true,true,true,true,true,true,true,true,true,false,false] zbc (zdb y s yn1 yn0 un0 q1 rhat un21 q0) (fnK zaz zbn za1 Q))
 | 0=>fun _ _ _ _ _ _ _ _ _ h=>zb9 h
 | k+1=>fun y s yn1 yn0 un0 q1 rhat un21 q0 h=>zal (Eq.mpr (zw8 y s yn1 yn0 un0 q1 rhat un21 q0 Q) (have h:=(bits_Div64_h2.eq_2 y s yn1 yn0 un0 q1 rhat un21 q0 k).symm.trans h; zab h (fun h=>zab h (fun h=>zab h (fun h=>zag (Q:=Q) (e:=zbf) h hQ) (fun h=>(ze5 hQ k) _ _ _ _ _ _ _ _ _ h)) (fun h=>zag (Q:=Q) (e:=zbf) h hQ)) (fun h=>zab h (fun h=>zag (Q:=Q) (e:=zbf) h hQ) (fun h=>(ze5 hQ k) _ _ _ _ _ _ _ _ _ h))))
theorem zjT {r:UInt64 × UInt64} {Q:CallOut→Prop} (hQ:Q (zbf r)):∀ k:Nat,(∀ (y:UInt64) (s:UInt64) (yn1:UInt64) (yn0:UInt64) (un32:UInt64) (un1:UInt64) (un0:UInt64) (q1:UInt64) (rhat:UInt64),bits_Div64_h0 k y s yn1 yn0 un32 un1 un0 q1 rhat=some r→zah zaz za2 [true,true,true,true,true,true,true,true,true,true,true,true,true,true,false,false] zbc (zeX y s yn1 yn0 un32 un1 un0 q1 rhat) (fnK zaz zbn za1 Q))
 | 0=>fun _ _ _ _ _ _ _ _ _ h=>zb9 h
 | k+1=>fun y s yn1 yn0 un32 un1 un0 q1 rhat h=>zal (Eq.mpr (zww y s yn1 yn0 un32 un1 un0 q1 rhat Q) (have h:=(bits_Div64_h0.eq_2 y s yn1 yn0 un32 un1 un0 q1 rhat k).symm.trans h; zab h (fun h=>zab h (fun h=>zab h (fun h=>zad h fun hc0 h=>(ze5 hQ _) _ _ _ _ _ _ _ _ _ h) (fun h=>(zjT hQ k) _ _ _ _ _ _ _ _ _ h)) (fun h=>zad h fun hc0 h=>(ze5 hQ _) _ _ _ _ _ _ _ _ _ h)) (fun h=>zab h (fun h=>zad h fun hc0 h=>(ze5 hQ _) _ _ _ _ _ _ _ _ _ h) (fun h=>(zjT hQ k) _ _ _ _ _ _ _ _ _ h))))
theorem zyt (hi:UInt64) (lo:UInt64) (y:UInt64) (Q:CallOut→Prop):zac zaz za2 zbn za1 zbc [.pv (.sc .u64 hi),.pv (.sc .u64 lo),.pv (.sc .u64 y)] [] Q =
 (let s0:=(UInt64.ofInt ((((64:Nat) - (lenN (UInt64.toNat y))):Nat):Int));let s1:=((zaq hi (UInt64.toNat  s0 )) ||| (zaa lo (UInt64.toNat ((64:UInt64) -  s0 ))));(zaf (decide (y=(0:UInt64))) (False) (zaf (decide (y≤hi)) (False) (zaf (decide (hi=(0:UInt64))) ((y≠(0:UInt64))∧((y≠(0:UInt64))∧(Q (zbf ((lo / y),(lo % y)))))) (((zaa (zaq y (UInt64.toNat  s0 )) (32:Nat))≠(0:UInt64))∧(zah zaz za2 [true,true,true,true,true,true,true,true,true,true,true,true,true,true,false,false] zbc (zeX (zaq y (UInt64.toNat  s0 ))  s0  (zaa (zaq y (UInt64.toNat  s0 )) (32:Nat)) ((zaq y (UInt64.toNat  s0 )) &&& (4294967295:UInt64))  s1  (zaa (zaq lo (UInt64.toNat  s0 )) (32:Nat)) ((zaq lo (UInt64.toNat  s0 )) &&& (4294967295:UInt64)) ( s1  / (zaa (zaq y (UInt64.toNat  s0 )) (32:Nat))) ( s1  - (( s1  / (zaa (zaq y (UInt64.toNat  s0 )) (32:Nat)))*(zaa (zaq y (UInt64.toNat  s0 )) (32:Nat))))) (fnK zaz zbn za1 Q))))))):=by kernel_rfl
theorem zzZ {k:Nat} (hi:UInt64) (lo:UInt64) (y:UInt64) {r} {Q:CallOut→Prop} (h:bits_Div64 k hi lo y=some r) (hQ:Q (zbf r)):zac zaz za2 zbn za1 zbc [.pv (.sc .u64 hi),.pv (.sc .u64 lo),.pv (.sc .u64 y)] [] Q :=
 Eq.mpr (zyt hi lo y Q) (have h:=(bits_Div64.eq_1 k hi lo y).symm.trans h; zab h (fun h=>zb9 h) (fun h=>zab h (fun h=>zb9 h) (fun h=>zab h (fun h=>zad h fun hc0 h=>⟨hc0,zag (Q:=Q) (e:=zbf) h hQ⟩) (fun h=>zad h fun hc0 h=>(zjT hQ _) _ _ _ _ _ _ _ _ _ h))))
def zhz:Ans
 | [.pv (.sc .u64 hi),.pv (.sc .u64 lo),.pv (.sc .u64 y)],[]=>some (some (hi.toNat < y.toNat),zbf ((UInt64.ofNat ((hi.toNat*18446744073709551616+lo.toNat) / y.toNat),UInt64.ofNat ((hi.toNat*18446744073709551616+lo.toNat) % y.toNat))))
 | _,_=>none
theorem zt4:TblOK Tryd.prog theG zkG:=.cons ⟨by kernel_rfl,zjZ⟩ (.nil)
theorem zwI:FnOK Tryd.prog theG 85 (unW zhz):=by
 refine FnOK.ofC (T:=zkG) (nt:=135) (np:=0) (mv:=[]) (nf:=false) (hs:=za1) (fn:=Tryd.f85) (body:=zbc) zt4 (by kernel_rfl) (by kernel_rfl) (by kernel_rfl) (by kernel_rfl) (c:=zhz) (lv:=za2) ?_
 intro xs mem p out h hp
 unfold zhz at h
 split at h
 ·cases h
  obtain ⟨k,hk⟩:=zrx _ _ _ hp
  exact zzZ _ _ _ hk rfl
 ·cases h
end
end Go.Proofs.YtnolgfdjcipmmaaDoor.M
