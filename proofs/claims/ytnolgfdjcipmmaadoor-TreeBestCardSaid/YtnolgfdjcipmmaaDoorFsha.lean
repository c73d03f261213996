/- Part of the proofs: what functions of the program do: plain functions, and the walks that show it. No condition. -/
import Derived.KernelRfl
import Derived.Test.YtnolgfdjcipmmaaDoorProg
import Derived.Test.YtnolgfdjcipmmaaDoorLe
import Derived.Test.YtnolgfdjcipmmaaDoorSwords
import Derived.Test.YtnolgfdjcipmmaaDoorSshaS
import Derived.Test.YtnolgfdjcipmmaaDoorFbits
import Derived.Test.YtnolgfdjcipmmaaDoorSshaK
set_option linter.unusedVariables false
set_option linter.unusedSimpArgs false
set_option autoImplicit false
namespace Go.Proofs.YtnolgfdjcipmmaaDoor.M
open Go
noncomputable section
def sha_Begin  : Vector UInt32 8 :=
 (Vector.setIfInBounds (Vector.setIfInBounds (Vector.setIfInBounds (Vector.setIfInBounds (Vector.setIfInBounds (Vector.setIfInBounds (Vector.setIfInBounds (Vector.setIfInBounds (Vector.replicate 8 (0:UInt32)) (0:Nat) (1779033703:UInt32)) (1:Nat) (3144134277:UInt32)) (2:Nat) (1013904242:UInt32)) (3:Nat) (2773480762:UInt32)) (4:Nat) (1359893119:UInt32)) (5:Nat) (2600822924:UInt32)) (6:Nat) (528734635:UInt32)) (7:Nat) (1541459225:UInt32))
end
end Go.Proofs.YtnolgfdjcipmmaaDoor.M
namespace Go.Proofs.YtnolgfdjcipmmaaDoor.M
open Go
noncomputable section
def sha_high_h0:Nat→UInt64→Int→Int→Int→(List UInt8)→Option (List UInt8)
 | 0,_,_,_,_,_=>none
 | k+1,n,many,t10,t11,b=>bif decide (t11 < t10) then(if(0:Int)≤(w64 ((8:Int)*t11)) then
    if((0:Int)≤(w64 ((w64 (many - (1:Int))) - t11)))∧((w64 ((w64 (many - (1:Int))) - t11)) < (((List.length b):Nat):Int)) then
     sha_high_h0 k n many t10 (w64 (t11+(1:Int))) (List.set b (Int.toNat (w64 ((w64 (many - (1:Int))) - t11))) (UInt64.toUInt8 (zaa n (Int.toNat (w64 ((8:Int)*t11))))))
    else none
   else none)
   else(some b)
def sha_high (k:Nat) (n:UInt64) (many:Int):Option (List UInt8) :=
 if((0:Int)≤many)∧((many≤many)∧(((many*(((1:Nat):Nat):Int))≤(((70368744177664:Nat):Nat):Int))∧(many≤((2:Int) ^ (62:Nat))))) then
  sha_high_h0 k n many (((List.length (List.replicate (Int.toNat many) (0:UInt8))):Nat):Int) (0:Int) (List.replicate (Int.toNat many) (0:UInt8))
 else none
theorem zwM (n:UInt64) (many:Int) (h:0≤many∧many≤64):∃ k,sha_high k n many=some (zcW n many.toNat):=by
 obtain ⟨m,rfl⟩:=Int.eq_ofNat_of_zero_le h.1
 have hm:m≤64:=by omega
 show Ev (fun k=>sha_high k n (m:Int)) _
 refine Ev.same (g:=fun k=>sha_high_h0 k n m m 0 (List.replicate m 0)) (fun k=>?_) ?_
 ·rw[sha_high.eq_1,if_pos (by simp; omega)]
  simp
 ·have hl:∀ i (l:List UInt8),(zbP (fun i l=>List.set l (m - 1 - i) (zaa n (8*i)).toUInt8) 0 i l).length=l.length:=by
   intro i
   induction i with
   | zero=>intro l; rfl
   | succ i ih=>intro l; rw[zc7,List.length_set,ih]
  refine Ev.up (H:=fun k i (b:{l:List UInt8 // l.length=m})=>sha_high_h0 k n m m i b.1) (lo:=0) (n:=m) (step:=fun i b=>⟨List.set b.1 (m - 1 - i) (zaa n (8*i)).toUInt8,by rw[List.length_set]; exact b.2⟩) ?_ m 0 ⟨List.replicate m 0,by simp⟩ (Nat.le_refl 0) (by omega) ?_
  ·intro i b _ hi e
   refine Ev.step (fun k=>?_) e
   have a1:w64 (8*(i:Int))=((8*i:Nat):Int):=by rw[zaj (by omega) (by omega)]; omega
   have a2:w64 ((m:Int) - 1)=((m - 1:Nat):Int):=by rw[zaj (by omega) (by omega)]; omega
   have a3:w64 (((m - 1:Nat):Int) - (i:Int))=((m - 1 - i:Nat):Int):=by rw[zaj (by omega) (by omega)]; omega
   have hb:=b.2
   rw[sha_high_h0.eq_2,zan (by omega),a1,a2,a3,if_pos (by omega),if_pos (by omega),zaj (by omega) (by omega)]
   simp only[Int.toNat_natCast]
  ·refine Ev.done fun k=>?_
   rw[sha_high_h0.eq_2,zau (by omega)]
   refine congrArg some ?_
   have gen:∀ i,i≤m→∀ j,j < m→(zbP (σ:={l:List UInt8 // l.length=m}) (fun i b=>⟨List.set b.1 (m - 1 - i) (zaa n (8*i)).toUInt8,by rw[List.length_set]; exact b.2⟩) 0 i ⟨List.replicate m 0,by simp⟩).1.getD j 0=if m - 1 - j < i then(zaa n (8*(m - 1 - j))).toUInt8 else 0:=by
    intro i
    induction i with
    | zero=>intro _ j _; simp only[zbP]; rw[zJK]; simp
    | succ i ih =>
     intro hi j hj
     rw[zc7,Nat.zero_add]
     simp only
     rw[zDz,ih (by omega) j hj]
     have hlen:=(zbP (σ:={l:List UInt8 // l.length=m}) (fun i b=>⟨List.set b.1 (m - 1 - i) (zaa n (8*i)).toUInt8,by rw[List.length_set]; exact b.2⟩) 0 i ⟨List.replicate m 0,by simp⟩).2
     rw[hlen]
     by_cases h1:m - 1 - i=j
     ·rw[if_pos ⟨h1,by omega⟩,if_pos (by omega),show m - 1 - j=i by omega]
     ·rw[if_neg (by omega)]
      by_cases h2:m - 1 - j < i
      ·rw[if_pos h2,if_pos (by omega)]
      ·rw[if_neg h2,if_neg (by omega)]
   have hlen:=(zbP (σ:={l:List UInt8 // l.length=m}) (fun i b=>⟨List.set b.1 (m - 1 - i) (zaa n (8*i)).toUInt8,by rw[List.length_set]; exact b.2⟩) 0 m ⟨List.replicate m 0,by simp⟩).2
   refine zJi 0 (by rw[hlen,zhn,Int.toNat_natCast]) fun j hj=>?_
   rw[hlen]at hj
   rw[gen m (Nat.le_refl m) j hj,if_pos (by omega)]
   simp[zcW,List.getD,hj]
end
end Go.Proofs.YtnolgfdjcipmmaaDoor.M
namespace Go.Proofs.YtnolgfdjcipmmaaDoor.M
open Go
noncomputable section
def sha_Padded (b:List UInt8):Option (List UInt8) :=
 if(
   (0:Int)≤(0:Int))∧(((0:Int)≤(w64 ((w64 ((w64 ((((List.length b):Nat):Int)+(1:Int)))+(Int.tmod (w64 ((w64 ((56:Int) - (Int.tmod (w64 ((((List.length b):Nat):Int)+(1:Int))) (64:Int))))+(64:Int))) (64:Int))))+(8:Int))))∧((((w64 ((w64 ((w64 ((((List.length b):Nat):Int)+(1:Int)))+(Int.tmod (w64 ((w64 ((56:Int) - (Int.tmod (w64 ((((List.length b):Nat):Int)+(1:Int))) (64:Int))))+(64:Int))) (64:Int))))+(8:Int)))*(((1:Nat):Nat):Int))≤(((70368744177664:Nat):Nat):Int))∧((w64 ((w64 ((w64 ((((List.length b):Nat):Int)+(1:Int)))+(Int.tmod (w64 ((w64 ((56:Int) - (Int.tmod (w64 ((((List.length b):Nat):Int)+(1:Int))) (64:Int))))+(64:Int))) (64:Int))))+(8:Int)))≤((2:Int) ^ (62:Nat))))) then
  if(
    ((
     List.length ((List.replicate (0:Nat) (0:UInt8))++b))*(1:Nat))≤(70368744177664:Nat))∧((List.length ((List.replicate (0:Nat) (0:UInt8))++b))≤(70368744177664:Nat)) then
   if(
     ((
      List.length (((List.replicate (0:Nat) (0:UInt8))++b)++([(128:UInt8)]:List UInt8)))*(1:Nat))≤(70368744177664:Nat))∧((List.length (((List.replicate (0:Nat) (0:UInt8))++b)++([(128:UInt8)]:List UInt8)))≤(70368744177664:Nat)) then
    if(
      ((0:Int)≤(Int.tmod (w64 ((w64 ((56:Int) - (Int.tmod (w64 ((((List.length b):Nat):Int)+(1:Int))) (64:Int))))+(64:Int))) (64:Int)))∧((Int.tmod (w64 ((w64 ((56:Int) - (Int.tmod (w64 ((((List.length b):Nat):Int)+(1:Int))) (64:Int))))+(64:Int))) (64:Int))≤((2:Int) ^ (62:Nat))))∧((((List.length ((((List.replicate (0:Nat) (0:UInt8))++b)++([(128:UInt8)]:List UInt8))++(List.replicate (Int.toNat (Int.tmod (w64 ((w64 ((56:Int) - (Int.tmod (w64 ((((List.length b):Nat):Int)+(1:Int))) (64:Int))))+(64:Int))) (64:Int))) (0:UInt8))))*(1:Nat))≤(70368744177664:Nat))∧((List.length ((((List.replicate (0:Nat) (0:UInt8))++b)++([(128:UInt8)]:List UInt8))++(List.replicate (Int.toNat (Int.tmod (w64 ((w64 ((56:Int) - (Int.tmod (w64 ((((List.length b):Nat):Int)+(1:Int))) (64:Int))))+(64:Int))) (64:Int))) (0:UInt8))))≤(70368744177664:Nat))) then
     if(((List.length (((((List.replicate (0:Nat) (0:UInt8))++b)++([(128:UInt8)]:List UInt8))++(List.replicate (Int.toNat (Int.tmod (w64 ((w64 ((56:Int) - (Int.tmod (w64 ((((List.length b):Nat):Int)+(1:Int))) (64:Int))))+(64:Int))) (64:Int))) (0:UInt8)))++(zcW (zaq (UInt64.ofInt (((List.length b):Nat):Int)) (3:Nat)) (8:Nat))))*(1:Nat))≤(70368744177664:Nat))∧((List.length (((((List.replicate (0:Nat) (0:UInt8))++b)++([(128:UInt8)]:List UInt8))++(List.replicate (Int.toNat (Int.tmod (w64 ((w64 ((56:Int) - (Int.tmod (w64 ((((List.length b):Nat):Int)+(1:Int))) (64:Int))))+(64:Int))) (64:Int))) (0:UInt8)))++(zcW (zaq (UInt64.ofInt (((List.length b):Nat):Int)) (3:Nat)) (8:Nat))))≤(70368744177664:Nat)) then
      some (((((List.replicate (0:Nat) (0:UInt8))++b)++([(128:UInt8)]:List UInt8))++(List.replicate (Int.toNat (Int.tmod (w64 ((w64 ((56:Int) - (Int.tmod (w64 ((((List.length b):Nat):Int)+(1:Int))) (64:Int))))+(64:Int))) (64:Int))) (0:UInt8)))++(zcW (zaq (UInt64.ofInt (((List.length b):Nat):Int)) (3:Nat)) (8:Nat)))
     else none
    else none
   else none
  else none
 else none
theorem zsI (b:List UInt8) (hb:b.length≤1099511627776):sha_Padded b=some (zcg b):=by
 have z1:w64 (((List.length b:Nat):Int)+1)=((b.length+1:Nat):Int):=by rw[zaj (by omega) (by omega)]; omega
 have z2:Int.tmod ((b.length+1:Nat):Int) 64=(((b.length+1) % 64:Nat):Int):=rfl
 have z3:w64 (56 - (((b.length+1) % 64:Nat):Int))=56 - (((b.length+1) % 64:Nat):Int):=zaj (by omega) (by omega)
 have z4:w64 (56 - (((b.length+1) % 64:Nat):Int)+64)=((56+64 - (b.length+1) % 64:Nat):Int):=by rw[zaj (by omega) (by omega)]; omega
 have z5:Int.tmod ((56+64 - (b.length+1) % 64:Nat):Int) 64=((zca b.length:Nat):Int):=rfl
 have hz:zca b.length < 64:=Nat.mod_lt _ (by omega)
 have z6:w64 (((b.length+1:Nat):Int)+((zca b.length:Nat):Int))=((b.length+1+zca b.length:Nat):Int):=by rw[zaj (by omega) (by omega)]; omega
 have z7:w64 (((b.length+1+zca b.length:Nat):Int)+8)=((b.length+1+zca b.length+8:Nat):Int):=by rw[zaj (by omega) (by omega)]; omega
 rw[sha_Padded.eq_1]
 simp only[z1,z2,z3,z4,z5,z6,z7]
 generalize hze:zca b.length=z at hz
 have h8:(8:Int).toNat=8:=rfl
 simp only[List.replicate_zero,List.nil_append,Int.toNat_natCast,h8,List.length_append,List.length_cons,List.length_nil,List.length_replicate,zhn]
 rw[if_pos (by omega),if_pos (by omega),if_pos (by omega),if_pos (by omega),if_pos (by omega),←hze]
 rfl
end
end Go.Proofs.YtnolgfdjcipmmaaDoor.M
namespace Go.Proofs.YtnolgfdjcipmmaaDoor.M
open Go
noncomputable section
def sha_turn (x_0:UInt32) (n:Int):UInt32 :=
 (bits_RotateLeft32 x_0 (w64 ((0:Int) - n)))
end
end Go.Proofs.YtnolgfdjcipmmaaDoor.M
namespace Go.Proofs.YtnolgfdjcipmmaaDoor.M
open Go
noncomputable section
def sha_Round_h6:Nat→(Vector UInt32 8)→Int→(Vector UInt32 8)→(Vector UInt32 8)→Option (Vector UInt32 8)
 | 0,_,_,_,_=>none
 | k+1,t175,t176,s,t4=>bif decide (t176 < (8:Int)) then(if((0:Int)≤t176)∧(t176 < (8:Int)) then
    sha_Round_h6 k t175 (w64 (t176+(1:Int))) (Vector.setIfInBounds s (Int.toNat t176) ((List.getD (Vector.toList s) (Int.toNat t176) (0:UInt32))+(List.getD (Vector.toList t175) (Int.toNat t176) (0:UInt32)))) t4
   else none)
   else(some s)
def sha_Round_h4:Nat→UInt32→UInt32→UInt32→UInt32→UInt32→UInt32→UInt32→UInt32→Int→(Vector UInt32 8)→(Vector UInt32 8)→(Vector UInt32 64)→Option (Vector UInt32 8)
 | 0,_,_,_,_,_,_,_,_,_,_,_,_=>none
 | k+1,a,bb,c,d,e,f,g,h_,t104,s,t4,w=>bif decide (t104 < (64:Int)) then(if((0:Int)≤t104)∧(t104 < (64:Int)) then
    sha_Round_h4 k (((((h_+(((sha_turn e (6:Int)) ^^^ (sha_turn e (11:Int))) ^^^ (sha_turn e (25:Int))))+((e &&& f) ^^^ ((~~~e) &&& g)))+(List.getD (Vector.toList shaK) (Int.toNat t104) (0:UInt32)))+(List.getD (Vector.toList w) (Int.toNat t104) (0:UInt32)))+((((sha_turn a (2:Int)) ^^^ (sha_turn a (13:Int))) ^^^ (sha_turn a (22:Int)))+(((a &&& bb) ^^^ (a &&& c)) ^^^ (bb &&& c)))) a bb c (d+((((h_+(((sha_turn e (6:Int)) ^^^ (sha_turn e (11:Int))) ^^^ (sha_turn e (25:Int))))+((e &&& f) ^^^ ((~~~e) &&& g)))+(List.getD (Vector.toList shaK) (Int.toNat t104) (0:UInt32)))+(List.getD (Vector.toList w) (Int.toNat t104) (0:UInt32)))) e f g (w64 (t104+(1:Int))) s t4 w
   else none)
   else(sha_Round_h6 k (Vector.setIfInBounds (Vector.setIfInBounds (Vector.setIfInBounds (Vector.setIfInBounds (Vector.setIfInBounds (Vector.setIfInBounds (Vector.setIfInBounds (Vector.setIfInBounds (Vector.replicate 8 (0:UInt32)) (0:Nat) a) (1:Nat) bb) (2:Nat) c) (3:Nat) d) (4:Nat) e) (5:Nat) f) (6:Nat) g) (7:Nat) h_) (0:Int) s t4)
mutual
def sha_Round_h0:Nat→Int→(Vector UInt32 8)→(Vector UInt8 64)→(Vector UInt32 8)→(Vector UInt32 64)→Option (Vector UInt32 8)
 | 0,_,_,_,_,_=>none
 | k+1,t24,s,b,t4,w=>bif decide (t24 < (64:Int)) then(bif decide (t24 < (16:Int)) then(if((0:Int)≤(w64 ((4:Int)*t24)))∧(((w64 ((4:Int)*t24))≤(w64 ((w64 ((4:Int)*t24))+(4:Int))))∧((w64 ((w64 ((4:Int)*t24))+(4:Int)))≤(((64:Nat):Nat):Int))) then
     sha_Round_h2 k t24 t24 (Int.toNat (w64 ((4:Int)*t24))) ((Int.toNat (w64 ((w64 ((4:Int)*t24))+(4:Int)))) - (Int.toNat (w64 ((4:Int)*t24)))) ((64:Nat) - (Int.toNat (w64 ((4:Int)*t24)))) ((((Int.toNat (w64 ((w64 ((4:Int)*t24))+(4:Int)))) - (Int.toNat (w64 ((4:Int)*t24)))):Nat):Int) (0:Int) s b t4 w
    else none)
    else(
       if(
         (0:Int)≤(w64 (t24 - (15:Int))))∧((w64 (t24 - (15:Int))) < (64:Int)) then
     if(
       (0:Int)≤(w64 (t24 - (2:Int))))∧((w64 (t24 - (2:Int))) < (64:Int)) then
      if(
        (0:Int)≤(w64 (t24 - (16:Int))))∧((w64 (t24 - (16:Int))) < (64:Int)) then
       if(
         (0:Int)≤(w64 (t24 - (7:Int))))∧((w64 (t24 - (7:Int))) < (64:Int)) then
        if((0:Int)≤t24)∧(t24 < (64:Int)) then
         sha_Round_h0 k (w64 (t24+(1:Int))) s b t4 (Vector.setIfInBounds w (Int.toNat t24) ((((List.getD (Vector.toList w) (Int.toNat (w64 (t24 - (16:Int)))) (0:UInt32))+(List.getD (Vector.toList w) (Int.toNat (w64 (t24 - (7:Int)))) (0:UInt32)))+(((sha_turn (List.getD (Vector.toList w) (Int.toNat (w64 (t24 - (15:Int)))) (0:UInt32)) (7:Int)) ^^^ (sha_turn (List.getD (Vector.toList w) (Int.toNat (w64 (t24 - (15:Int)))) (0:UInt32)) (18:Int))) ^^^ (zaP (List.getD (Vector.toList w) (Int.toNat (w64 (t24 - (15:Int)))) (0:UInt32)) (3:Nat))))+(((sha_turn (List.getD (Vector.toList w) (Int.toNat (w64 (t24 - (2:Int)))) (0:UInt32)) (17:Int)) ^^^ (sha_turn (List.getD (Vector.toList w) (Int.toNat (w64 (t24 - (2:Int)))) (0:UInt32)) (19:Int))) ^^^ (zaP (List.getD (Vector.toList w) (Int.toNat (w64 (t24 - (2:Int)))) (0:UInt32)) (10:Nat)))))
        else none
       else none
      else none
     else none
    else none))
   else(sha_Round_h4 k (List.getD (Vector.toList s) (0:Nat) (0:UInt32)) (List.getD (Vector.toList s) (1:Nat) (0:UInt32)) (List.getD (Vector.toList s) (2:Nat) (0:UInt32)) (List.getD (Vector.toList s) (3:Nat) (0:UInt32)) (List.getD (Vector.toList s) (4:Nat) (0:UInt32)) (List.getD (Vector.toList s) (5:Nat) (0:UInt32)) (List.getD (Vector.toList s) (6:Nat) (0:UInt32)) (List.getD (Vector.toList s) (7:Nat) (0:UInt32)) (0:Int) s t4 w)
def sha_Round_h2:Nat→Int→Int→Nat→Nat→Nat→Int→Int→(Vector UInt32 8)→(Vector UInt8 64)→(Vector UInt32 8)→(Vector UInt32 64)→Option (Vector UInt32 8)
 | 0,_,_,_,_,_,_,_,_,_,_,_=>none
 | k+1,i,t24,t34,t341,t342,t35,t36,s,b,t4,w=>bif decide (t36 < t35) then(if((0:Int)≤t36)∧(t36 < ((t341:Nat):Int)) then
    if((0:Int)≤i)∧(i < (64:Int)) then
     sha_Round_h2 k i t24 t34 t341 t342 t35 (w64 (t36+(1:Int))) s b t4 (Vector.setIfInBounds w (Int.toNat i) ((zcb (List.getD (Vector.toList w) (Int.toNat i) (0:UInt32)) (8:Nat)) ||| (UInt8.toUInt32 (List.getD (Vector.toList b) (t34+(Int.toNat t36)) (0:UInt8)))))
    else none
   else none)
   else(sha_Round_h0 k (w64 (t24+(1:Int))) s b t4 w)
end
def sha_Round (k:Nat) (s:Vector UInt32 8) (b:Vector UInt8 64):Option (Vector UInt32 8) :=
 sha_Round_h0 k (0:Int) s b (Vector.replicate 8 (0:UInt32)) (Vector.replicate 64 (0:UInt32))
theorem zrt (x:UInt32):sha_turn x 2=shT x 2∧sha_turn x 6=shT x 6∧sha_turn x 7=shT x 7∧sha_turn x 11=shT x 11∧sha_turn x 13=shT x 13∧sha_turn x 17=shT x 17∧sha_turn x 18=shT x 18∧sha_turn x 19=shT x 19∧sha_turn x 22=shT x 22∧sha_turn x 25=shT x 25:=by
 have h:∀ (n m:Nat),(UInt64.toNat ((UInt64.ofInt (w64 (0 - (n:Int)))) &&& 31))=m→(UInt64.toNat (32 - ((UInt64.ofInt (w64 (0 - (n:Int)))) &&& 31)))=n→32 - n=m→sha_turn x n=shT x n:=by
  intro n m h1 h2 h3
  unfold sha_turn bits_RotateLeft32 shT
  rw[h1,h2,h3,UInt32.or_comm]
 refine ⟨h 2 30 ?_ ?_ rfl,h 6 26 ?_ ?_ rfl,h 7 25 ?_ ?_ rfl,h 11 21 ?_ ?_ rfl,h 13 19 ?_ ?_ rfl,h 17 15 ?_ ?_ rfl,h 18 14 ?_ ?_ rfl,h 19 13 ?_ ?_ rfl,h 22 10 ?_ ?_ rfl,h 25 7 ?_ ?_ rfl⟩<;>decide +kernel
theorem zA7 (x s t4:Vector UInt32 8):Ev (fun k=>sha_Round_h6 k x 0 s t4) (zqj s x):=by
 refine Ev.up (H:=fun k i s=>sha_Round_h6 k x i s t4) (n:=8) (step:=fun i (a:Vector UInt32 8)=>Vector.setIfInBounds a i (List.getD (Vector.toList a) i 0+List.getD (Vector.toList x) i 0)) ?_ 8 0 s (Nat.le_refl 0) rfl ?_
 ·intro i s _ hi e
  refine Ev.step (fun k=>?_) e
  rw[sha_Round_h6.eq_2,zan (by omega),if_pos (by omega),zaj (by omega) (by omega),Int.toNat_natCast]
 ·refine Ev.done fun k=>?_
  rw[sha_Round_h6.eq_2,zau (by omega),zsM]
theorem zAj (s t4:Vector UInt32 8) (w:Vector UInt32 64) (v:Vector UInt32 8) :
  Ev (fun k=>sha_Round_h4 k (shG v 0) (shG v 1) (shG v 2) (shG v 3) (shG v 4) (shG v 5) (shG v 6) (shG v 7) 0 s t4 w) (zqj s (zbP (zsX shaK w) 0 64 v)):=by
 refine Ev.up (H:=fun k i v=>sha_Round_h4 k (shG v 0) (shG v 1) (shG v 2) (shG v 3) (shG v 4) (shG v 5) (shG v 6) (shG v 7) i s t4 w) (n:=64) (step:=zsX shaK w) ?_ 64 0 v (Nat.le_refl 0) rfl ?_
 ·intro i v _ hi e
  refine Ev.step (fun k=>?_) e
  rw[sha_Round_h4.eq_2,zan (by omega),if_pos (by omega),zaj (by omega) (by omega),Int.toNat_natCast]
  have t:=fun x=>zrt x
  simp only[(t _).1,(t _).2.1,(t _).2.2.1,(t _).2.2.2.1,(t _).2.2.2.2.1,(t _).2.2.2.2.2.1,(t _).2.2.2.2.2.2.1,(t _).2.2.2.2.2.2.2.1,(t _).2.2.2.2.2.2.2.2.1,(t _).2.2.2.2.2.2.2.2.2]
  rfl
 ·refine Ev.step (fun k=>?_) (zA7 (zbP (zsX shaK w) 0 64 v) s t4)
  rw[sha_Round_h4.eq_2,zau (by omega)]
  generalize zbP (zsX shaK w) 0 64 v=x
  refine congrArg (fun y=>sha_Round_h6 k y 0 s t4) ?_
  refine vext 0 fun j hj=>?_
  have:j=0∨j=1∨j=2∨j=3∨j=4∨j=5∨j=6∨j=7:=by omega
  rcases this with h | h | h | h | h | h | h | h<;>subst h<;>simp[zax,shG]
theorem zyr (s:Vector UInt32 8) (b:Vector UInt8 64):∃ k,sha_Round k s b=some (zh7 shaK s (fun i=>List.getD (Vector.toList b) i 0)):=by
 show Ev (fun k=>sha_Round k s b) _
 refine Ev.same (fun k=>sha_Round.eq_1 k s b) ?_
 let t4:Vector UInt32 8:=Vector.replicate 8 0
 have h2:Ev (fun k=>sha_Round_h0 k ((16:Nat):Int) s b t4 (zbP (zl4 fun i=>List.getD (Vector.toList b) i 0) 0 16 (Vector.replicate 64 0))) (zh7 shaK s (fun i=>List.getD (Vector.toList b) i 0)):=by
  have:Ev (fun k=>sha_Round_h0 k ((64:Nat):Int) s b t4 (shW fun i=>List.getD (Vector.toList b) i 0)) (zh7 shaK s (fun i=>List.getD (Vector.toList b) i 0)):=by
   refine Ev.step (fun k=>?_) (zAj s t4 (shW fun i=>List.getD (Vector.toList b) i 0) s)
   rw[sha_Round_h0.eq_2,zau (by omega)]
   rfl
  refine Ev.up (H:=fun k i w=>sha_Round_h0 k i s b t4 w) (lo:=16) (n:=64) (step:=fun i w=>Vector.setIfInBounds w i (zwn w i)) ?_ 48 16 _ (Nat.le_refl 16) rfl this
  intro i w h16 hi e
  refine Ev.step (fun k=>?_) e
  have a1:w64 ((i:Int) - 15)=((i - 15:Nat):Int):=by rw[zaj (by omega) (by omega)]; omega
  have a2:w64 ((i:Int) - 2)=((i - 2:Nat):Int):=by rw[zaj (by omega) (by omega)]; omega
  have a3:w64 ((i:Int) - 16)=((i - 16:Nat):Int):=by rw[zaj (by omega) (by omega)]; omega
  have a4:w64 ((i:Int) - 7)=((i - 7:Nat):Int):=by rw[zaj (by omega) (by omega)]; omega
  rw[sha_Round_h0.eq_2,zan (by omega),zau (by omega),a1,a2,a3,a4,if_pos (by omega),if_pos (by omega),if_pos (by omega),if_pos (by omega),if_pos (by omega),zaj (by omega) (by omega)]
  simp only[Int.toNat_natCast]
  have t:=fun x=>zrt x
  simp only[(t _).1,(t _).2.1,(t _).2.2.1,(t _).2.2.2.1,(t _).2.2.2.2.1,(t _).2.2.2.2.2.1,(t _).2.2.2.2.2.2.1,(t _).2.2.2.2.2.2.2.1,(t _).2.2.2.2.2.2.2.2.1,(t _).2.2.2.2.2.2.2.2.2]
  rfl
 refine Ev.up (H:=fun k i w=>sha_Round_h0 k i s b t4 w) (n:=16) (step:=zl4 fun i=>List.getD (Vector.toList b) i 0) ?_ 16 0 _ (Nat.le_refl 0) rfl h2
 intro i w _ hi e
 have a1:w64 (4*(i:Int))=((4*i:Nat):Int):=by rw[zaj (by omega) (by omega)]; omega
 have a2:w64 (((4*i:Nat):Int)+4)=((4*i+4:Nat):Int):=by rw[zaj (by omega) (by omega)]; omega
 refine Ev.step (g:=fun k=>sha_Round_h2 k i i (4*i) 4 (64 - 4*i) 4 0 s b t4 w) (fun k=>?_) ?_
 ·rw[sha_Round_h0.eq_2,zan (by omega),zan (by omega),a1,a2,if_pos (by omega)]
  simp only[Int.toNat_natCast]
  rw[show 4*i+4 - 4*i=4 by omega]
  rfl
 ·refine Ev.up (H:=fun k j w=>sha_Round_h2 k i i (4*i) 4 (64 - 4*i) 4 j s b t4 w) (n:=4) (step:=fun j w=>Vector.setIfInBounds w i (zFP (List.getD (Vector.toList w) i 0) (List.getD (Vector.toList b) (4*i+j) 0))) ?_ 4 0 w (Nat.le_refl 0) rfl ?_
  ·intro j w _ hj e
   refine Ev.step (fun k=>?_) e
   rw[sha_Round_h2.eq_2,zan (by omega),if_pos (by omega),if_pos (by omega),zaj (by omega) (by omega)]
   simp only[Int.toNat_natCast]
   rfl
  ·refine Ev.step (fun k=>?_) e
   rw[sha_Round_h2.eq_2,zau (by omega),zaj (by omega) (by omega)]
   rfl
theorem zut (s:Vector UInt32 8) (b:Vector UInt8 64):∃ k,sha_Round k s b=some (zem shaK s (fun i=>List.getD (Vector.toList b) i 0)):=by
 rw[zg0]; exact zyr s b
end
end Go.Proofs.YtnolgfdjcipmmaaDoor.M
namespace Go.Proofs.YtnolgfdjcipmmaaDoor.M
open Go
noncomputable section
def sha_Sum_h2:Nat→(Vector UInt32 8)→Int→(Vector UInt8 32)→(Vector UInt8 32)→Option (Vector UInt8 32)
 | 0,_,_,_,_=>none
 | k+1,t27,t28,t2,out=>bif decide (t28 < (8:Int)) then(if((0:Int)≤t28)∧(t28 < (8:Int)) then
    if((0:Int)≤(w64 ((4:Int)*t28)))∧(((w64 ((4:Int)*t28))≤(32:Int))∧((32:Int)≤(((32:Nat):Nat):Int))) then
     sha_Sum_h2 k t27 (w64 (t28+(1:Int))) t2 (Vector.ofFn (fun(z5:Fin 32)=>(List.getD (zdO (Int.toNat (w64 ((4:Int)*t28))) (Min.min (List.length (zcW (UInt32.toUInt64 (List.getD (Vector.toList t27) (Int.toNat t28) (0:UInt32))) (4:Nat))) ((Int.toNat (32:Int)) - (Int.toNat (w64 ((4:Int)*t28))))) (Vector.toList out) (zcW (UInt32.toUInt64 (List.getD (Vector.toList t27) (Int.toNat t28) (0:UInt32))) (4:Nat))) ((0:Nat)+(Fin.val z5)) (0:UInt8))))
    else none
   else none)
   else(some out)
def sha_Sum_h0:Nat→Int→(Vector UInt8 32)→(Vector UInt32 8)→(List UInt8)→Option (Vector UInt8 32)
 | 0,_,_,_,_=>none
 | k+1,i,t2,s,p=>bif decide (i < (((List.length p):Nat):Int)) then(if((0:Int)≤i)∧((i≤(w64 (i+(64:Int))))∧((w64 (i+(64:Int)))≤(((List.length p):Nat):Int))) then
    if((64:Nat)≤((Int.toNat (w64 (i+(64:Int)))) - (Int.toNat i)))∧((0:Nat) < (64:Nat)) then
     sha_Sum_h0 k (w64 (i+(64:Int))) t2 (zem shaK s (fun(z5:Nat)=>(List.getD (Vector.toList (Vector.ofFn (fun(z6:Fin 64)=>(List.getD p ((Int.toNat i)+(Fin.val z6)) (0:UInt8))))) z5 (0:UInt8)))) p
    else none
   else none)
   else(sha_Sum_h2 k s (0:Int) t2 (Vector.replicate 32 (0:UInt8)))
def sha_Sum (k:Nat) (b:List UInt8):Option (Vector UInt8 32) :=
 if(List.length b)≤(1099511627776:Nat) then
  sha_Sum_h0 k (0:Int) (Vector.replicate 32 (0:UInt8)) sha_Begin (zcg b)
 else none
theorem zzy:sha_Begin=zcS:=by rfl
def zDW (s:Vector UInt32 8) (i:Nat) (out:Vector UInt8 32):Vector UInt8 32 :=
 Vector.ofFn (fun(z5:Fin 32)=>(List.getD (zdO (4*i) 4 (Vector.toList out) (zcW (UInt32.toUInt64 (List.getD (Vector.toList s) i (0:UInt32))) (4:Nat))) ((0:Nat)+(Fin.val z5)) (0:UInt8)))
theorem zFm (s:Vector UInt32 8) (i:Nat) (out:Vector UInt8 32) (hi:i < 8) (j:Nat) (hj:j < 32):(zDW s i out).toList.getD j 0=if 4*i≤j∧j < 4*i+4 then zm5 s j else out.toList.getD j 0:=by
 unfold zDW
 rw[zkJ _ _ _ hj,Nat.zero_add]
 dsimp only
 rw[zFx _ _ _ _ _ _ (by simp; omega) (by simp[zhn])]
 split
 ·rename_i h
  rw[zBy _ _ _ (by omega),zGi _ _ (by omega)]
  unfold zm5 shG
  rw[show i=j / 4 by omega,show 8*(4 - 1 - (j - 4*(j / 4)))=24 - 8*(j % 4) by omega]
 ·rfl
theorem zE0 (s:Vector UInt32 8) (t2 out:Vector UInt8 32):Ev (fun k=>sha_Sum_h2 k s 0 t2 out) (zvB s):=by
 refine Ev.up (H:=fun k i out=>sha_Sum_h2 k s i t2 out) (lo:=0) (n:=8) (step:=zDW s) ?_ 8 0 out (Nat.le_refl 0) rfl ?_
 ·intro i out _ hi e
  refine Ev.step (fun k=>?_) e
  have a1:w64 (4*(i:Int))=((4*i:Nat):Int):=by rw[zaj (by omega) (by omega)]; omega
  have a2:min 4 (Int.toNat (32:Int) - 4*i)=4:=by simp; omega
  rw[sha_Sum_h2.eq_2,zan (by omega),if_pos (by omega),if_pos (by rw[a1]; omega),a1,zaj (by omega) (by omega)]
  simp only[Int.toNat_natCast,zhn,a2]
  rfl
 ·refine Ev.done fun k=>?_
  rw[sha_Sum_h2.eq_2,zau (by omega)]
  refine congrArg some ?_
  have gen:∀ m,m≤8→∀ j,j < 32→(zbP (zDW s) 0 m out).toList.getD j 0=if j < 4*m then zm5 s j else out.toList.getD j 0:=by
   intro m
   induction m with
   | zero=>intro _ j _; rw[if_neg (by omega)]; rfl
   | succ m ih =>
    intro hm j hj
    rw[zc7,Nat.zero_add,zFm s m _ (by omega) j hj,ih (by omega) j hj]
    by_cases h:j < 4*m
    ·rw[if_neg (by omega),if_pos h,if_pos (by omega)]
    ·by_cases h2:j < 4*m+4
     ·rw[if_pos (by omega),if_pos (by omega)]
     ·rw[if_neg (by omega),if_neg h,if_neg (by omega)]
  refine vext 0 fun j hj=>?_
  rw[gen 8 (Nat.le_refl _) j hj,if_pos (by omega)]
  exact (zkJ (fun i:Fin 32=>zm5 s i.val) j 0 hj).symm
theorem zz3 (b:List UInt8) (hb:b.length≤1099511627776):∃ k,sha_Sum k b=some (za4 b):=by
 show Ev (fun k=>sha_Sum k b) _
 refine Ev.same (fun k=>by rw[sha_Sum.eq_1,if_pos hb,zzy]) ?_
 obtain ⟨p1,p2,p3⟩:=zvV b
 have gen:∀ n s,n*64≤(zcg b).length→s=zjq (zcg b) n→Ev (fun k=>sha_Sum_h0 k ((64*n:Nat):Int) (Vector.replicate 32 0) s (zcg b)) (za4 b):=by
  intro n s hn hs
  generalize hm:(zcg b).length / 64 - n=m
  induction m generalizing n s with
  | zero =>
   have h1:n=(zcg b).length / 64:=by omega
   have h2:za4 b=zvB s:=by rw[zf8,←h1,←hs]
   rw[h2]
   refine Ev.step (fun k=>?_) (zE0 s (Vector.replicate 32 0) (Vector.replicate 32 0))
   rw[sha_Sum_h0.eq_2,zau (by omega)]
  | succ m ih =>
   refine Ev.step (fun k=>?_) (ih (n+1) (zjq (zcg b) (n+1)) (by omega) rfl (by omega))
   have a1:w64 (((64*n:Nat):Int)+64)=((64*(n+1):Nat):Int):=by rw[zaj (by omega) (by omega)]; omega
   rw[sha_Sum_h0.eq_2,zan (by omega),a1,if_pos (by omega),if_pos (by omega)]
   subst hs
   simp only[Int.toNat_natCast]
   refine congrArg (fun y=>sha_Sum_h0 k ((64*(n+1):Nat):Int) (Vector.replicate 32 0) y (zcg b)) ?_
   exact zl8 fun j hj=>zkJ (fun z:Fin 64=>(zcg b).getD (64*n+z.val) 0) j 0 hj
 exact gen 0 _ (by omega) rfl
end
end Go.Proofs.YtnolgfdjcipmmaaDoor.M
namespace Go.Proofs.YtnolgfdjcipmmaaDoor.M
open Go
noncomputable section
def sha_Twice (b:List UInt8):Option (Vector UInt8 32) :=
 if(
   List.length b)≤(1099511627776:Nat) then
  if(List.length (List.take ((Int.toNat (32:Int)) - (Int.toNat (0:Int))) (List.drop (Int.toNat (0:Int)) (Vector.toList (za4 b)))))≤(1099511627776:Nat) then
   some (za4 (List.take ((Int.toNat (32:Int)) - (Int.toNat (0:Int))) (List.drop (Int.toNat (0:Int)) (Vector.toList (za4 b)))))
  else none
 else none
theorem zuj (b:List UInt8) (hb:b.length≤1099511627776):sha_Twice b=some (za4 (Vector.toList (za4 b))):=by
 rw[sha_Twice.eq_1,if_pos hb,zID,if_pos (by simp)]
end
end Go.Proofs.YtnolgfdjcipmmaaDoor.M
namespace Go.Proofs.YtnolgfdjcipmmaaDoor.M
open Go
noncomputable section
set_option maxRecDepth 100000
set_option maxHeartbeats 0
noncomputable def zmr:Tbl:=[]
noncomputable def ztk:CfgW:=mkC Tryd.prog theG zmr 2 0 false
def zko:Nat→List Nat:=fun i=>[]
noncomputable abbrev zmD:Code:=Tryd.f74.body.getD .skip
noncomputable abbrev zrB:List ResultVar:=Tryd.f74.results.toList
def zj6:List Nat:=[]
def zgJ (r:Vector UInt32 8):CallOut:=⟨.pv (.arr .u32 8 r),[],true,[]⟩
theorem zCe  (Q:CallOut→Prop):zac ztk zko zrB zj6 zmD [] [] Q =
  (Q (zgJ (Vector.setIfInBounds (Vector.setIfInBounds (Vector.setIfInBounds (Vector.setIfInBounds (Vector.setIfInBounds (Vector.setIfInBounds (Vector.setIfInBounds (Vector.setIfInBounds (Vector.replicate 8 (0:UInt32)) (0:Nat) (1779033703:UInt32)) (1:Nat) (3144134277:UInt32)) (2:Nat) (1013904242:UInt32)) (3:Nat) (2773480762:UInt32)) (4:Nat) (1359893119:UInt32)) (5:Nat) (2600822924:UInt32)) (6:Nat) (528734635:UInt32)) (7:Nat) (1541459225:UInt32)))):=by kernel_rfl
theorem zCV  {Q:CallOut→Prop} (h:Q (zgJ (sha_Begin ))):zac ztk zko zrB zj6 zmD [] [] Q :=
 Eq.mpr (zCe  Q) (have h:=Eq.mp (congrArg (fun r=>Q (zgJ r)) (sha_Begin.eq_1 )) h; h)
def zja:Ans
 | [],[]=>some (none,zgJ (sha_Begin ))
 | _,_=>none
theorem zwB:TblOK Tryd.prog theG zmr:=.nil
theorem zzE:FnOK Tryd.prog theG 74 (unW zja):=by
 refine FnOK.ofC (T:=zmr) (nt:=2) (np:=0) (mv:=[]) (nf:=false) (hs:=zj6) (fn:=Tryd.f74) (body:=zmD) zwB (by kernel_rfl) (by kernel_rfl) (by kernel_rfl) (by kernel_rfl) (c:=zja) (lv:=zko) ?_
 intro xs mem p out h hp
 unfold zja at h
 split at h
 ·cases h
  exact zCV  rfl
 ·cases h
end
end Go.Proofs.YtnolgfdjcipmmaaDoor.M
namespace Go.Proofs.YtnolgfdjcipmmaaDoor.M
open Go
noncomputable section
set_option maxRecDepth 100000
set_option maxHeartbeats 0
noncomputable def zph:Tbl:=[]
noncomputable def zdz:CfgW:=mkC Tryd.prog theG zph 27 0 false
def zew:Nat→List Nat:=fun i=>bif Nat.beq i 0 then [0,1,5,10,11]else []
noncomputable abbrev zfB:Code:=Tryd.f77.body.getD .skip
noncomputable abbrev zgO:List ResultVar:=Tryd.f77.results.toList
def zey:List Nat:=[]
def zf3 (r:List UInt8):CallOut:=⟨.o 60000,[(60000,.row (.s .u8 r) false)],true,[]⟩
def zjj (n:UInt64) (many:Int) (t10:Int) (t11:Int) (b:List UInt8):St:=⟨[(0,.pv (.sc .u64 n)),(1,.pv (.sc .i many)),(5,.o 60000),(10,.pv (.sc .i t10)),(11,.pv (.sc .i t11))],[(60000,.row (.s .u8 b) true)]⟩
theorem zCj (n:UInt64) (many:Int) (t10:Int) (t11:Int) (b:List UInt8) (Q:CallOut→Prop):zas zdz zew [true,true,false,true,false] zfB (zjj n many t10 t11 b) (fnK zdz zgO zey Q) =
  (zaf (decide (t11 < t10)) (((0:Int)≤(w64 ((8:Int)*t11)))∧((((0:Int)≤(w64 ((w64 (many - (1:Int))) - t11)))∧((w64 ((w64 (many - (1:Int))) - t11)) < (((List.length b):Nat):Int)))∧(zah zdz zew [true,true,false,true,false] zfB (zjj n many t10 (w64 (t11+(1:Int))) (List.set b (Int.toNat (w64 ((w64 (many - (1:Int))) - t11))) (UInt64.toUInt8 (zaa n (Int.toNat (w64 ((8:Int)*t11))))))) (fnK zdz zgO zey Q)))) (Q (zf3 b))):=by kernel_rfl
theorem zrR {r:List UInt8} {Q:CallOut→Prop} (hQ:Q (zf3 r)):∀ k:Nat,(∀ (n:UInt64) (many:Int) (t10:Int) (t11:Int) (b:List UInt8),sha_high_h0 k n many t10 t11 b=some r→zah zdz zew [true,true,false,true,false] zfB (zjj n many t10 t11 b) (fnK zdz zgO zey Q))
 | 0=>fun _ _ _ _ _ h=>zb9 h
 | k+1=>fun n many t10 t11 b h=>zal (Eq.mpr (zCj n many t10 t11 b Q) (have h:=(sha_high_h0.eq_2 n many t10 t11 b k).symm.trans h; zab h (fun h=>zad h fun hc0 h=>zad h fun hc1 h=>(zrR hQ k) _ _ _ _ _ h) (fun h=>zag (Q:=Q) (e:=zf3) h hQ)))
theorem zFs (n:UInt64) (many:Int) (Q:CallOut→Prop):zac zdz zew zgO zey zfB [.pv (.sc .u64 n),.pv (.sc .i many)] [] Q =
  ((((0:Int)≤many)∧((many≤many)∧(((many*(((1:Nat):Nat):Int))≤(((70368744177664:Nat):Nat):Int))∧(many≤((2:Int) ^ (62:Nat))))))∧(zah zdz zew [true,true,false,true,false] zfB (zjj n many (((List.length (List.replicate (Int.toNat many) (0:UInt8))):Nat):Int) (0:Int) (List.replicate (Int.toNat many) (0:UInt8))) (fnK zdz zgO zey Q))):=by kernel_rfl
theorem zFh {k:Nat} (n:UInt64) (many:Int) {r} {Q:CallOut→Prop} (h:sha_high k n many=some r) (hQ:Q (zf3 r)):zac zdz zew zgO zey zfB [.pv (.sc .u64 n),.pv (.sc .i many)] [] Q :=
 Eq.mpr (zFs n many Q) (have h:=(sha_high.eq_1 k n many).symm.trans h; zad h fun hc0 h=>(zrR hQ _) _ _ _ _ _ h)
def ziB:Ans
 | [.pv (.sc .u64 n),.pv (.sc .i many)],[]=>some (some (0≤many∧many≤64),zf3 (zcW n many.toNat))
 | _,_=>none
theorem zA8:TblOK Tryd.prog theG zph:=.nil
theorem zrJ:FnOK Tryd.prog theG 77 (unW ziB):=by
 refine FnOK.ofC (T:=zph) (nt:=27) (np:=0) (mv:=[]) (nf:=false) (hs:=zey) (fn:=Tryd.f77) (body:=zfB) zA8 (by kernel_rfl) (by kernel_rfl) (by kernel_rfl) (by kernel_rfl) (c:=ziB) (lv:=zew) ?_
 intro xs mem p out h hp
 unfold ziB at h
 split at h
 ·cases h
  obtain ⟨k,hk⟩:=zwM _ _ hp
  exact zFh _ _ hk rfl
 ·cases h
end
end Go.Proofs.YtnolgfdjcipmmaaDoor.M
namespace Go.Proofs.YtnolgfdjcipmmaaDoor.M
open Go
noncomputable section
set_option maxRecDepth 100000
set_option maxHeartbeats 0
noncomputable def zkl:Tbl:=[(77,[],ziB)]
noncomputable def zqe:CfgW:=mkC Tryd.prog theG zkl 35 0 false
def ziM:Nat→List Nat:=fun i=>[]
noncomputable abbrev zld:Code:=Tryd.f75.body.getD .skip
noncomputable abbrev zql:List ResultVar:=Tryd.f75.results.toList
def ziS:List Nat:=[]
def zfT (r:List UInt8):CallOut:=⟨.o 60000,[(60000,.row (.s .u8 r) false)],true,[]⟩
theorem zzf (b:List UInt8) (Q:CallOut→Prop):zac zqe ziM zql ziS zld [.pv (.sl .u8 b)] [] Q =
 (let s0:=(Int.tmod (w64 ((w64 ((56:Int) - (Int.tmod (w64 ((((List.length b):Nat):Int)+(1:Int))) (64:Int))))+(64:Int))) (64:Int));let s1:=((((List.replicate (0:Nat) (0:UInt8))++b)++([(128:UInt8)]:List UInt8))++(List.replicate (Int.toNat  s0 ) (0:UInt8)));let s2:=( s1 ++(zcW (zaq (UInt64.ofInt (((List.length b):Nat):Int)) (3:Nat)) (8:Nat)));let s3:=(w64 ((w64 ((w64 ((((List.length b):Nat):Int)+(1:Int)))+ s0 ))+(8:Int)));(((64:Int)≠(0:Int))∧(((64:Int)≠(0:Int))∧((((0:Int)≤(0:Int))∧(((0:Int)≤ s3 )∧((( s3 *(((1:Nat):Nat):Int))≤(((70368744177664:Nat):Nat):Int))∧( s3 ≤((2:Int) ^ (62:Nat))))))∧(((((List.length ((List.replicate (0:Nat) (0:UInt8))++b))*(1:Nat))≤(70368744177664:Nat))∧((List.length ((List.replicate (0:Nat) (0:UInt8))++b))≤(70368744177664:Nat)))∧(((((List.length (((List.replicate (0:Nat) (0:UInt8))++b)++([(128:UInt8)]:List UInt8)))*(1:Nat))≤(70368744177664:Nat))∧((List.length (((List.replicate (0:Nat) (0:UInt8))++b)++([(128:UInt8)]:List UInt8)))≤(70368744177664:Nat)))∧(((((0:Int)≤ s0 )∧( s0 ≤((2:Int) ^ (62:Nat))))∧((((List.length  s1 )*(1:Nat))≤(70368744177664:Nat))∧((List.length  s1 )≤(70368744177664:Nat))))∧((((0:Int)≤(8:Int))∧((8:Int)≤(64:Int)))∧(((((List.length  s2 )*(1:Nat))≤(70368744177664:Nat))∧((List.length  s2 )≤(70368744177664:Nat)))∧(Q (zfT  s2 ))))))))))):=by kernel_rfl
theorem zyQ (b:List UInt8) {r} {Q:CallOut→Prop} (h:sha_Padded b=some r) (hQ:Q (zfT r)):zac zqe ziM zql ziS zld [.pv (.sl .u8 b)] [] Q :=
 Eq.mpr (zzf b Q) (have h:=(sha_Padded.eq_1 b).symm.trans h; ⟨by decide +kernel,⟨by decide +kernel,zad h fun hc0 h=>zad h fun hc1 h=>zad h fun hc2 h=>zad h fun hc3 h=>⟨by decide +kernel,zad h fun hc4 h=>zag (Q:=Q) (e:=zfT) h hQ⟩⟩⟩)
def zhR:Ans
 | [.pv (.sl .u8 b)],[]=>some (some (b.length≤1099511627776),zfT (zcg b))
 | _,_=>none
theorem zuA:TblOK Tryd.prog theG zkl:=.cons ⟨by kernel_rfl,zrJ⟩ (.nil)
theorem zxA:FnOK Tryd.prog theG 75 (unW zhR):=by
 refine FnOK.ofC (T:=zkl) (nt:=35) (np:=0) (mv:=[]) (nf:=false) (hs:=ziS) (fn:=Tryd.f75) (body:=zld) zuA (by kernel_rfl) (by kernel_rfl) (by kernel_rfl) (by kernel_rfl) (c:=zhR) (lv:=ziM) ?_
 intro xs mem p out h hp
 unfold zhR at h
 split at h
 ·cases h
  exact zyQ _ (zsI _ hp) rfl
 ·cases h
end
end Go.Proofs.YtnolgfdjcipmmaaDoor.M
namespace Go.Proofs.YtnolgfdjcipmmaaDoor.M
open Go
noncomputable section
set_option maxRecDepth 100000
set_option maxHeartbeats 0
noncomputable def zpv:Tbl:=[(92,[],zc6)]
noncomputable def zvJ:CfgW:=mkC Tryd.prog theG zpv 9 0 false
def zmL:Nat→List Nat:=fun i=>[]
noncomputable abbrev zpz:Code:=Tryd.f86.body.getD .skip
noncomputable abbrev zvr:List ResultVar:=Tryd.f86.results.toList
def znf:List Nat:=[]
def zhO (r:UInt32):CallOut:=⟨.pv (.sc .u32 r),[],true,[]⟩
theorem zFc (x_0:UInt32) (n:Int) (Q:CallOut→Prop):zac zvJ zmL zvr znf zpz [.pv (.sc .u32 x_0),.pv (.sc .i n)] [] Q =
  (Q (zhO (bits_RotateLeft32 x_0 (w64 ((0:Int) - n))))):=by kernel_rfl
theorem zE1 (x_0:UInt32) (n:Int) {Q:CallOut→Prop} (h:Q (zhO (sha_turn x_0 n))):zac zvJ zmL zvr znf zpz [.pv (.sc .u32 x_0),.pv (.sc .i n)] [] Q :=
 Eq.mpr (zFc x_0 n Q) (have h:=Eq.mp (congrArg (fun r=>Q (zhO r)) (sha_turn.eq_1 x_0 n)) h; h)
def zlG:Ans
 | [.pv (.sc .u32 x_0),.pv (.sc .i n)],[]=>some (none,zhO (sha_turn x_0 n))
 | _,_=>none
theorem zy5:TblOK Tryd.prog theG zpv:=.cons ⟨by kernel_rfl,zlW⟩ (.nil)
theorem zCG:FnOK Tryd.prog theG 86 (unW zlG):=by
 refine FnOK.ofC (T:=zpv) (nt:=9) (np:=0) (mv:=[]) (nf:=false) (hs:=znf) (fn:=Tryd.f86) (body:=zpz) zy5 (by kernel_rfl) (by kernel_rfl) (by kernel_rfl) (by kernel_rfl) (c:=zlG) (lv:=zmL) ?_
 intro xs mem p out h hp
 unfold zlG at h
 split at h
 ·cases h
  exact zE1 _ _ rfl
 ·cases h
end
end Go.Proofs.YtnolgfdjcipmmaaDoor.M
namespace Go.Proofs.YtnolgfdjcipmmaaDoor.M
open Go
noncomputable section
set_option maxRecDepth 100000
set_option maxHeartbeats 0
noncomputable def znr:Tbl:=[(86,[],zlG)]
noncomputable def zat:CfgW:=mkC Tryd.prog theG znr 188 0 false
def zaS:Nat→List Nat:=fun i=>bif Nat.beq i 6 then [2,4,175,176]else bif Nat.beq i 4 then [2,4,5,11,12,13,14,15,16,17,18,104]else bif Nat.beq i 2 then [2,3,4,5,6,24,34,35,36]else bif Nat.beq i 0 then [2,3,4,5,24]else []
noncomputable abbrev zaY:Code:=Tryd.f76.body.getD .skip
noncomputable abbrev zaZ:List ResultVar:=Tryd.f76.results.toList
def zaR:List Nat:=[]
def zdk (r:Vector UInt32 8):CallOut:=⟨.pv (.arr .u32 8 r),[],true,[]⟩
def zf9 (t24:Int) (s:Vector UInt32 8) (b:Vector UInt8 64) (t4:Vector UInt32 8) (w:Vector UInt32 64):St:=⟨[(2,.p 60000 []),(3,.p 60001 []),(4,.p 60002 []),(5,.p 60003 []),(24,.pv (.sc .i t24))],[(60000,.box (.pv (.arr .u32 8 s))),(60001,.box (.pv (.arr .u8 64 b))),(60002,.box (.pv (.arr .u32 8 t4))),(60003,.box (.pv (.arr .u32 64 w)))]⟩
def zhM (i:Int) (t24:Int) (t34:Nat) (t341:Nat) (t342:Nat) (t35:Int) (t36:Int) (s:Vector UInt32 8) (b:Vector UInt8 64) (t4:Vector UInt32 8) (w:Vector UInt32 64):St:=⟨[(2,.p 60000 []),(3,.p 60001 []),(4,.p 60002 []),(5,.p 60003 []),(6,.pv (.sc .i i)),(24,.pv (.sc .i t24)),(34,.vw 60001 [] t34 t341 (some t342)),(35,.pv (.sc .i t35)),(36,.pv (.sc .i t36))],[(60000,.box (.pv (.arr .u32 8 s))),(60001,.box (.pv (.arr .u8 64 b))),(60002,.box (.pv (.arr .u32 8 t4))),(60003,.box (.pv (.arr .u32 64 w)))]⟩
def zhJ (a:UInt32) (bb:UInt32) (c:UInt32) (d:UInt32) (e:UInt32) (f:UInt32) (g:UInt32) (h_:UInt32) (t104:Int) (s:Vector UInt32 8) (t4:Vector UInt32 8) (w:Vector UInt32 64):St:=⟨[(2,.p 60000 []),(4,.p 60001 []),(5,.p 60002 []),(11,.pv (.sc .u32 a)),(12,.pv (.sc .u32 bb)),(13,.pv (.sc .u32 c)),(14,.pv (.sc .u32 d)),(15,.pv (.sc .u32 e)),(16,.pv (.sc .u32 f)),(17,.pv (.sc .u32 g)),(18,.pv (.sc .u32 h_)),(104,.pv (.sc .i t104))],[(60000,.box (.pv (.arr .u32 8 s))),(60001,.box (.pv (.arr .u32 8 t4))),(60002,.box (.pv (.arr .u32 64 w)))]⟩
def zhF (t175:Vector UInt32 8) (t176:Int) (s:Vector UInt32 8) (t4:Vector UInt32 8):St:=⟨[(2,.p 60000 []),(4,.p 60001 []),(175,.pv (.arr .u32 8 t175)),(176,.pv (.sc .i t176))],[(60000,.box (.pv (.arr .u32 8 s))),(60001,.box (.pv (.arr .u32 8 t4)))]⟩
theorem zz4 (t24:Int) (s:Vector UInt32 8) (b:Vector UInt8 64) (t4:Vector UInt32 8) (w:Vector UInt32 64) (Q:CallOut→Prop):zas zat zaS [true,true,false,true,false] zaY (zf9 t24 s b t4 w) (fnK zat zaZ zaR Q) =
 (let s0:=(List.getD (Vector.toList w) (Int.toNat (w64 (t24 - (15:Int)))) (0:UInt32));let s1:=(List.getD (Vector.toList w) (Int.toNat (w64 (t24 - (2:Int)))) (0:UInt32));(zaf (decide (t24 < (64:Int))) (zaf (decide (t24 < (16:Int))) ((((0:Int)≤(w64 ((4:Int)*t24)))∧(((w64 ((4:Int)*t24))≤(w64 ((w64 ((4:Int)*t24))+(4:Int))))∧((w64 ((w64 ((4:Int)*t24))+(4:Int)))≤(((64:Nat):Nat):Int))))∧(zah zat zaS [true,true,false,true,false,false,true,true,false,false,true,false,true,false,false,true,false] zaY (zhM t24 t24 (Int.toNat (w64 ((4:Int)*t24))) ((Int.toNat (w64 ((w64 ((4:Int)*t24))+(4:Int)))) - (Int.toNat (w64 ((4:Int)*t24)))) ((64:Nat) - (Int.toNat (w64 ((4:Int)*t24)))) ((((Int.toNat (w64 ((w64 ((4:Int)*t24))+(4:Int)))) - (Int.toNat (w64 ((4:Int)*t24)))):Nat):Int) (0:Int) s b t4 w) (fnK zat zaZ zaR Q))) ((((0:Int)≤(w64 (t24 - (15:Int))))∧((w64 (t24 - (15:Int))) < (64:Int)))∧((((0:Int)≤(w64 (t24 - (2:Int))))∧((w64 (t24 - (2:Int))) < (64:Int)))∧((((0:Int)≤(w64 (t24 - (16:Int))))∧((w64 (t24 - (16:Int))) < (64:Int)))∧((((0:Int)≤(w64 (t24 - (7:Int))))∧((w64 (t24 - (7:Int))) < (64:Int)))∧((((0:Int)≤t24)∧(t24 < (64:Int)))∧(zah zat zaS [true,true,false,true,false] zaY (zf9 (w64 (t24+(1:Int))) s b t4 (Vector.setIfInBounds w (Int.toNat t24) ((((List.getD (Vector.toList w) (Int.toNat (w64 (t24 - (16:Int)))) (0:UInt32))+(List.getD (Vector.toList w) (Int.toNat (w64 (t24 - (7:Int)))) (0:UInt32)))+(((sha_turn  s0  (7:Int)) ^^^ (sha_turn  s0  (18:Int))) ^^^ (zaP  s0  (3:Nat))))+(((sha_turn  s1  (17:Int)) ^^^ (sha_turn  s1  (19:Int))) ^^^ (zaP  s1  (10:Nat)))))) (fnK zat zaZ zaR Q)))))))) ((((0:Int)≤(0:Int))∧((0:Int) < (8:Int)))∧((((0:Int)≤(1:Int))∧((1:Int) < (8:Int)))∧((((0:Int)≤(2:Int))∧((2:Int) < (8:Int)))∧((((0:Int)≤(3:Int))∧((3:Int) < (8:Int)))∧((((0:Int)≤(4:Int))∧((4:Int) < (8:Int)))∧((((0:Int)≤(5:Int))∧((5:Int) < (8:Int)))∧((((0:Int)≤(6:Int))∧((6:Int) < (8:Int)))∧((((0:Int)≤(7:Int))∧((7:Int) < (8:Int)))∧(zah zat zaS [true,true,true,true,false,true,false] zaY (zhJ (List.getD (Vector.toList s) (0:Nat) (0:UInt32)) (List.getD (Vector.toList s) (1:Nat) (0:UInt32)) (List.getD (Vector.toList s) (2:Nat) (0:UInt32)) (List.getD (Vector.toList s) (3:Nat) (0:UInt32)) (List.getD (Vector.toList s) (4:Nat) (0:UInt32)) (List.getD (Vector.toList s) (5:Nat) (0:UInt32)) (List.getD (Vector.toList s) (6:Nat) (0:UInt32)) (List.getD (Vector.toList s) (7:Nat) (0:UInt32)) (0:Int) s t4 w) (fnK zat zaZ zaR Q)))))))))))):=by kernel_rfl
theorem zyI (i:Int) (t24:Int) (t34:Nat) (t341:Nat) (t342:Nat) (t35:Int) (t36:Int) (s:Vector UInt32 8) (b:Vector UInt8 64) (t4:Vector UInt32 8) (w:Vector UInt32 64) (Q:CallOut→Prop):zas zat zaS [true,true,false,true,false,false,true,true,false,false,true,false,true,false,false,true,false] zaY (zhM i t24 t34 t341 t342 t35 t36 s b t4 w) (fnK zat zaZ zaR Q) =
  (zaf (decide (t36 < t35)) ((((0:Int)≤t36)∧(t36 < ((t341:Nat):Int)))∧((((0:Int)≤i)∧(i < (64:Int)))∧((((0:Int)≤i)∧(i < (64:Int)))∧(zah zat zaS [true,true,false,true,false,false,true,true,false,false,true,false,true,false,false,true,false] zaY (zhM i t24 t34 t341 t342 t35 (w64 (t36+(1:Int))) s b t4 (Vector.setIfInBounds w (Int.toNat i) ((zcb (List.getD (Vector.toList w) (Int.toNat i) (0:UInt32)) (8:Nat)) ||| (UInt8.toUInt32 (List.getD (Vector.toList b) (t34+(Int.toNat t36)) (0:UInt8)))))) (fnK zat zaZ zaR Q))))) (zah zat zaS [true,true,false,true,false] zaY (zf9 (w64 (t24+(1:Int))) s b t4 w) (fnK zat zaZ zaR Q))):=by kernel_rfl
theorem zzY (a:UInt32) (bb:UInt32) (c:UInt32) (d:UInt32) (e:UInt32) (f:UInt32) (g:UInt32) (h_:UInt32) (t104:Int) (s:Vector UInt32 8) (t4:Vector UInt32 8) (w:Vector UInt32 64) (Q:CallOut→Prop):zas zat zaS [true,true,true,true,false,true,false] zaY (zhJ a bb c d e f g h_ t104 s t4 w) (fnK zat zaZ zaR Q) =
 (let s0:=((((h_+(((sha_turn e (6:Int)) ^^^ (sha_turn e (11:Int))) ^^^ (sha_turn e (25:Int))))+((e &&& f) ^^^ ((~~~e) &&& g)))+(List.getD (Vector.toList shaK) (Int.toNat t104) (0:UInt32)))+(List.getD (Vector.toList w) (Int.toNat t104) (0:UInt32)));(zaf (decide (t104 < (64:Int))) ((((0:Int)≤t104)∧(t104 < (64:Int)))∧((((0:Int)≤t104)∧(t104 < (64:Int)))∧(zah zat zaS [true,true,true,true,false,true,false] zaY (zhJ ( s0 +((((sha_turn a (2:Int)) ^^^ (sha_turn a (13:Int))) ^^^ (sha_turn a (22:Int)))+(((a &&& bb) ^^^ (a &&& c)) ^^^ (bb &&& c)))) a bb c (d+ s0 ) e f g (w64 (t104+(1:Int))) s t4 w) (fnK zat zaZ zaR Q)))) (zah zat zaS [true,true,true,true,true,false,true,false] zaY (zhF (Vector.setIfInBounds (Vector.setIfInBounds (Vector.setIfInBounds (Vector.setIfInBounds (Vector.setIfInBounds (Vector.setIfInBounds (Vector.setIfInBounds (Vector.setIfInBounds (Vector.replicate 8 (0:UInt32)) (0:Nat) a) (1:Nat) bb) (2:Nat) c) (3:Nat) d) (4:Nat) e) (5:Nat) f) (6:Nat) g) (7:Nat) h_) (0:Int) s t4) (fnK zat zaZ zaR Q)))):=by kernel_rfl
theorem zyZ (t175:Vector UInt32 8) (t176:Int) (s:Vector UInt32 8) (t4:Vector UInt32 8) (Q:CallOut→Prop):zas zat zaS [true,true,true,true,true,false,true,false] zaY (zhF t175 t176 s t4) (fnK zat zaZ zaR Q) =
  (zaf (decide (t176 < (8:Int))) ((((0:Int)≤t176)∧(t176 < (8:Int)))∧((((0:Int)≤t176)∧(t176 < (8:Int)))∧((((0:Int)≤t176)∧(t176 < (8:Int)))∧(zah zat zaS [true,true,true,true,true,false,true,false] zaY (zhF t175 (w64 (t176+(1:Int))) (Vector.setIfInBounds s (Int.toNat t176) ((List.getD (Vector.toList s) (Int.toNat t176) (0:UInt32))+(List.getD (Vector.toList t175) (Int.toNat t176) (0:UInt32)))) t4) (fnK zat zaZ zaR Q))))) (Q (zdk s))):=by kernel_rfl
theorem zqx {r:Vector UInt32 8} {Q:CallOut→Prop} (hQ:Q (zdk r)):∀ k:Nat,(∀ (t175:Vector UInt32 8) (t176:Int) (s:Vector UInt32 8) (t4:Vector UInt32 8),sha_Round_h6 k t175 t176 s t4=some r→zah zat zaS [true,true,true,true,true,false,true,false] zaY (zhF t175 t176 s t4) (fnK zat zaZ zaR Q))
 | 0=>fun _ _ _ _ h=>zb9 h
 | k+1=>fun t175 t176 s t4 h=>zal (Eq.mpr (zyZ t175 t176 s t4 Q) (have h:=(sha_Round_h6.eq_2 t175 t176 s t4 k).symm.trans h; zab h (fun h=>zad h fun hc0 h=>⟨hc0,⟨hc0,(zqx hQ k) _ _ _ _ h⟩⟩) (fun h=>zag (Q:=Q) (e:=zdk) h hQ)))
theorem zqA {r:Vector UInt32 8} {Q:CallOut→Prop} (hQ:Q (zdk r)):∀ k:Nat,(∀ (a:UInt32) (bb:UInt32) (c:UInt32) (d:UInt32) (e:UInt32) (f:UInt32) (g:UInt32) (h_:UInt32) (t104:Int) (s:Vector UInt32 8) (t4:Vector UInt32 8) (w:Vector UInt32 64),sha_Round_h4 k a bb c d e f g h_ t104 s t4 w=some r→zah zat zaS [true,true,true,true,false,true,false] zaY (zhJ a bb c d e f g h_ t104 s t4 w) (fnK zat zaZ zaR Q))
 | 0=>fun _ _ _ _ _ _ _ _ _ _ _ _ h=>zb9 h
 | k+1=>fun a bb c d e f g h_ t104 s t4 w h=>zal (Eq.mpr (zzY a bb c d e f g h_ t104 s t4 w Q) (have h:=(sha_Round_h4.eq_2 a bb c d e f g h_ t104 s t4 w k).symm.trans h; zab h (fun h=>zad h fun hc0 h=>⟨hc0,(zqA hQ k) _ _ _ _ _ _ _ _ _ _ _ _ h⟩) (fun h=>(zqx hQ _) _ _ _ _ h)))
theorem zf6 {r:Vector UInt32 8} {Q:CallOut→Prop} (hQ:Q (zdk r)):∀ k:Nat,(∀ (t24:Int) (s:Vector UInt32 8) (b:Vector UInt8 64) (t4:Vector UInt32 8) (w:Vector UInt32 64),sha_Round_h0 k t24 s b t4 w=some r→zah zat zaS [true,true,false,true,false] zaY (zf9 t24 s b t4 w) (fnK zat zaZ zaR Q))∧(∀ (i:Int) (t24:Int) (t34:Nat) (t341:Nat) (t342:Nat) (t35:Int) (t36:Int) (s:Vector UInt32 8) (b:Vector UInt8 64) (t4:Vector UInt32 8) (w:Vector UInt32 64),sha_Round_h2 k i t24 t34 t341 t342 t35 t36 s b t4 w=some r→zah zat zaS [true,true,false,true,false,false,true,true,false,false,true,false,true,false,false,true,false] zaY (zhM i t24 t34 t341 t342 t35 t36 s b t4 w) (fnK zat zaZ zaR Q))
 | 0=>⟨fun _ _ _ _ _ h=>zb9 h,fun _ _ _ _ _ _ _ _ _ _ _ h=>zb9 h⟩
 | k+1=>⟨fun t24 s b t4 w h=>zal (Eq.mpr (zz4 t24 s b t4 w Q) (have h:=(sha_Round_h0.eq_2 t24 s b t4 w k).symm.trans h; zab h (fun h=>zab h (fun h=>zad h fun hc0 h=>(zf6 hQ k).2 _ _ _ _ _ _ _ _ _ _ _ h) (fun h=>zad h fun hc0 h=>zad h fun hc1 h=>zad h fun hc2 h=>zad h fun hc3 h=>zad h fun hc4 h=>(zf6 hQ k).1 _ _ _ _ _ h)) (fun h=>⟨by decide +kernel,⟨by decide +kernel,⟨by decide +kernel,⟨by decide +kernel,⟨by decide +kernel,⟨by decide +kernel,⟨by decide +kernel,⟨by decide +kernel,(zqA hQ _) _ _ _ _ _ _ _ _ _ _ _ _ h⟩⟩⟩⟩⟩⟩⟩⟩))),
  fun i t24 t34 t341 t342 t35 t36 s b t4 w h=>zal (Eq.mpr (zyI i t24 t34 t341 t342 t35 t36 s b t4 w Q) (have h:=(sha_Round_h2.eq_2 i t24 t34 t341 t342 t35 t36 s b t4 w k).symm.trans h; zab h (fun h=>zad h fun hc0 h=>zad h fun hc1 h=>⟨hc1,(zf6 hQ k).2 _ _ _ _ _ _ _ _ _ _ _ h⟩) (fun h=>(zf6 hQ k).1 _ _ _ _ _ h)))⟩
theorem zCr (s:Vector UInt32 8) (b:Vector UInt8 64) (Q:CallOut→Prop):zac zat zaS zaZ zaR zaY [.pv (.arr .u32 8 s),.pv (.arr .u8 64 b)] [] Q =
  (zah zat zaS [true,true,false,true,false] zaY (zf9 (0:Int) s b (Vector.replicate 8 (0:UInt32)) (Vector.replicate 64 (0:UInt32))) (fnK zat zaZ zaR Q)):=by kernel_rfl
theorem zCf {k:Nat} (s:Vector UInt32 8) (b:Vector UInt8 64) {r} {Q:CallOut→Prop} (h:sha_Round k s b=some r) (hQ:Q (zdk r)):zac zat zaS zaZ zaR zaY [.pv (.arr .u32 8 s),.pv (.arr .u8 64 b)] [] Q :=
 Eq.mpr (zCr s b Q) (have h:=(sha_Round.eq_1 k s b).symm.trans h; (zf6 hQ _).1 _ _ _ _ _ h)
def zjw:Ans
 | [.pv (.arr .u32 8 s),.pv (.arr .u8 64 b)],[]=>some (none,zdk (zem shaK s (fun i=>List.getD (Vector.toList b) i 0)))
 | _,_=>none
theorem zxq:TblOK Tryd.prog theG znr:=.cons ⟨by kernel_rfl,zCG⟩ (.nil)
theorem zz8:FnOK Tryd.prog theG 76 (unW zjw):=by
 refine FnOK.ofC (T:=znr) (nt:=188) (np:=0) (mv:=[]) (nf:=false) (hs:=zaR) (fn:=Tryd.f76) (body:=zaY) zxq (by kernel_rfl) (by kernel_rfl) (by kernel_rfl) (by kernel_rfl) (c:=zjw) (lv:=zaS) ?_
 intro xs mem p out h hp
 unfold zjw at h
 split at h
 ·cases h
  obtain ⟨k,hk⟩:=zut _ _
  exact zCf _ _ hk rfl
 ·cases h
end
end Go.Proofs.YtnolgfdjcipmmaaDoor.M
namespace Go.Proofs.YtnolgfdjcipmmaaDoor.M
open Go
noncomputable section
set_option maxRecDepth 100000
set_option maxHeartbeats 0
noncomputable def zs8:Tbl:=[(74,[],zja),(75,[],zhR),(76,[],zjw),(77,[],ziB)]
noncomputable def zbQ:CfgW:=mkC Tryd.prog theG zs8 41 0 false
def zcX:Nat→List Nat:=fun i=>bif Nat.beq i 2 then [2,6,27,28]else bif Nat.beq i 0 then [2,3,4,5]else []
noncomputable abbrev zdJ:Code:=Tryd.f60.body.getD .skip
noncomputable abbrev zei:List ResultVar:=Tryd.f60.results.toList
def zcV:List Nat:=[]
def zft (r:Vector UInt8 32):CallOut:=⟨.pv (.arr .u8 32 r),[],true,[]⟩
def zlB (i:Int) (t2:Vector UInt8 32) (s:Vector UInt32 8) (p:List UInt8):St:=⟨[(2,.p 60000 []),(3,.p 60001 []),(4,.o 60002),(5,.pv (.sc .i i))],[(60000,.box (.pv (.arr .u8 32 t2))),(60001,.box (.pv (.arr .u32 8 s))),(60002,.row (.s .u8 p) false)]⟩
def zlM (t27:Vector UInt32 8) (t28:Int) (t2:Vector UInt8 32) (out:Vector UInt8 32):St:=⟨[(2,.p 60000 []),(6,.p 60001 []),(27,.pv (.arr .u32 8 t27)),(28,.pv (.sc .i t28))],[(60000,.box (.pv (.arr .u8 32 t2))),(60001,.box (.pv (.arr .u8 32 out)))]⟩
theorem zEp (i:Int) (t2:Vector UInt8 32) (s:Vector UInt32 8) (p:List UInt8) (Q:CallOut→Prop):zas zbQ zcX [true,true,true,false,true,false] zdJ (zlB i t2 s p) (fnK zbQ zei zcV Q) =
  (zaf (decide (i < (((List.length p):Nat):Int))) ((((0:Int)≤i)∧((i≤(w64 (i+(64:Int))))∧((w64 (i+(64:Int)))≤(((List.length p):Nat):Int))))∧((((64:Nat)≤((Int.toNat (w64 (i+(64:Int)))) - (Int.toNat i)))∧((0:Nat) < (64:Nat)))∧(zah zbQ zcX [true,true,true,false,true,false] zdJ (zlB (w64 (i+(64:Int))) t2 (zem shaK s (fun(z5:Nat)=>(List.getD (Vector.toList (Vector.ofFn (fun(z6:Fin 64)=>(List.getD p ((Int.toNat i)+(Fin.val z6)) (0:UInt8))))) z5 (0:UInt8)))) p) (fnK zbQ zei zcV Q)))) (zah zbQ zcX [true,true,true,true,true,false,true,false] zdJ (zlM s (0:Int) t2 (Vector.replicate 32 (0:UInt8))) (fnK zbQ zei zcV Q))):=by kernel_rfl
theorem zEM (t27:Vector UInt32 8) (t28:Int) (t2:Vector UInt8 32) (out:Vector UInt8 32) (Q:CallOut→Prop):zas zbQ zcX [true,true,true,true,true,false,true,false] zdJ (zlM t27 t28 t2 out) (fnK zbQ zei zcV Q) =
 (let s0:=(zcW (UInt32.toUInt64 (List.getD (Vector.toList t27) (Int.toNat t28) (0:UInt32))) (4:Nat));(zaf (decide (t28 < (8:Int))) ((((0:Int)≤t28)∧(t28 < (8:Int)))∧((((0:Int)≤(w64 ((4:Int)*t28)))∧(((w64 ((4:Int)*t28))≤(32:Int))∧((32:Int)≤(((32:Nat):Nat):Int))))∧((((0:Int)≤(4:Int))∧((4:Int)≤(64:Int)))∧(zah zbQ zcX [true,true,true,true,true,false,true,false] zdJ (zlM t27 (w64 (t28+(1:Int))) t2 (Vector.ofFn (fun(z5:Fin 32)=>(List.getD (zdO (Int.toNat (w64 ((4:Int)*t28))) (Min.min (List.length  s0 ) ((Int.toNat (32:Int)) - (Int.toNat (w64 ((4:Int)*t28))))) (Vector.toList out)  s0 ) ((0:Nat)+(Fin.val z5)) (0:UInt8))))) (fnK zbQ zei zcV Q))))) (Q (zft out)))):=by kernel_rfl
theorem zu1 {r:Vector UInt8 32} {Q:CallOut→Prop} (hQ:Q (zft r)):∀ k:Nat,(∀ (t27:Vector UInt32 8) (t28:Int) (t2:Vector UInt8 32) (out:Vector UInt8 32),sha_Sum_h2 k t27 t28 t2 out=some r→zah zbQ zcX [true,true,true,true,true,false,true,false] zdJ (zlM t27 t28 t2 out) (fnK zbQ zei zcV Q))
 | 0=>fun _ _ _ _ h=>zb9 h
 | k+1=>fun t27 t28 t2 out h=>zal (Eq.mpr (zEM t27 t28 t2 out Q) (have h:=(sha_Sum_h2.eq_2 t27 t28 t2 out k).symm.trans h; zab h (fun h=>zad h fun hc0 h=>zad h fun hc1 h=>⟨by decide +kernel,(zu1 hQ k) _ _ _ _ h⟩) (fun h=>zag (Q:=Q) (e:=zft) h hQ)))
theorem zv7 {r:Vector UInt8 32} {Q:CallOut→Prop} (hQ:Q (zft r)):∀ k:Nat,(∀ (i:Int) (t2:Vector UInt8 32) (s:Vector UInt32 8) (p:List UInt8),sha_Sum_h0 k i t2 s p=some r→zah zbQ zcX [true,true,true,false,true,false] zdJ (zlB i t2 s p) (fnK zbQ zei zcV Q))
 | 0=>fun _ _ _ _ h=>zb9 h
 | k+1=>fun i t2 s p h=>zal (Eq.mpr (zEp i t2 s p Q) (have h:=(sha_Sum_h0.eq_2 i t2 s p k).symm.trans h; zab h (fun h=>zad h fun hc0 h=>zad h fun hc1 h=>(zv7 hQ k) _ _ _ _ h) (fun h=>(zu1 hQ _) _ _ _ _ h)))
theorem zHh (b:List UInt8) (Q:CallOut→Prop):zac zbQ zcX zei zcV zdJ [.pv (.sl .u8 b)] [] Q =
  (((List.length b)≤(1099511627776:Nat))∧(zah zbQ zcX [true,true,true,false,true,false] zdJ (zlB (0:Int) (Vector.replicate 32 (0:UInt8)) sha_Begin (zcg b)) (fnK zbQ zei zcV Q))):=by kernel_rfl
theorem zHq {k:Nat} (b:List UInt8) {r} {Q:CallOut→Prop} (h:sha_Sum k b=some r) (hQ:Q (zft r)):zac zbQ zcX zei zcV zdJ [.pv (.sl .u8 b)] [] Q :=
 Eq.mpr (zHh b Q) (have h:=(sha_Sum.eq_1 k b).symm.trans h; zad h fun hc0 h=>(zv7 hQ _) _ _ _ _ h)
def zn6:Ans
 | [.pv (.sl .u8 b)],[]=>some (some (b.length≤1099511627776),zft (za4 b))
 | _,_=>none
theorem zBa:TblOK Tryd.prog theG zs8:=.cons ⟨by kernel_rfl,zzE⟩ (.cons ⟨by kernel_rfl,zxA⟩ (.cons ⟨by kernel_rfl,zz8⟩ (.cons ⟨by kernel_rfl,zrJ⟩ (.nil))))
theorem zFr:FnOK Tryd.prog theG 60 (unW zn6):=by
 refine FnOK.ofC (T:=zs8) (nt:=41) (np:=0) (mv:=[]) (nf:=false) (hs:=zcV) (fn:=Tryd.f60) (body:=zdJ) zBa (by kernel_rfl) (by kernel_rfl) (by kernel_rfl) (by kernel_rfl) (c:=zn6) (lv:=zcX) ?_
 intro xs mem p out h hp
 unfold zn6 at h
 split at h
 ·cases h
  obtain ⟨k,hk⟩:=zz3 _ hp
  exact zHq _ hk rfl
 ·cases h
end
end Go.Proofs.YtnolgfdjcipmmaaDoor.M
namespace Go.Proofs.YtnolgfdjcipmmaaDoor.M
open Go
noncomputable section
set_option maxRecDepth 100000
set_option maxHeartbeats 0
noncomputable def zmo:Tbl:=[(60,[],zn6)]
noncomputable def zrK:CfgW:=mkC Tryd.prog theG zmo 8 0 false
def zkT:Nat→List Nat:=fun i=>[]
noncomputable abbrev zmS:Code:=Tryd.f42.body.getD .skip
noncomputable abbrev zsq:List ResultVar:=Tryd.f42.results.toList
def zkM:List Nat:=[]
def zgw (r:Vector UInt8 32):CallOut:=⟨.pv (.arr .u8 32 r),[],true,[]⟩
theorem zBG (b:List UInt8) (Q:CallOut→Prop):zac zrK zkT zsq zkM zmS [.pv (.sl .u8 b)] [] Q =
  (((List.length b)≤(1099511627776:Nat))∧((((0:Int)≤(0:Int))∧(((0:Int)≤(32:Int))∧((32:Int)≤(((32:Nat):Nat):Int))))∧(((List.length (List.take ((Int.toNat (32:Int)) - (Int.toNat (0:Int))) (List.drop (Int.toNat (0:Int)) (Vector.toList (za4 b)))))≤(1099511627776:Nat))∧(Q (zgw (za4 (List.take ((Int.toNat (32:Int)) - (Int.toNat (0:Int))) (List.drop (Int.toNat (0:Int)) (Vector.toList (za4 b)))))))))):=by kernel_rfl
theorem zCQ (b:List UInt8) {r} {Q:CallOut→Prop} (h:sha_Twice b=some r) (hQ:Q (zgw r)):zac zrK zkT zsq zkM zmS [.pv (.sl .u8 b)] [] Q :=
 Eq.mpr (zBG b Q) (have h:=(sha_Twice.eq_1 b).symm.trans h; zad h fun hc0 h=>⟨by decide +kernel,zad h fun hc1 h=>zag (Q:=Q) (e:=zgw) h hQ⟩)
def zjx:Ans
 | [.pv (.sl .u8 b)],[]=>some (some (b.length≤1099511627776),zgw (za4 (Vector.toList (za4 b))))
 | _,_=>none
theorem zxp:TblOK Tryd.prog theG zmo:=.cons ⟨by kernel_rfl,zFr⟩ (.nil)
theorem zzI:FnOK Tryd.prog theG 42 (unW zjx):=by
 refine FnOK.ofC (T:=zmo) (nt:=8) (np:=0) (mv:=[]) (nf:=false) (hs:=zkM) (fn:=Tryd.f42) (body:=zmS) zxp (by kernel_rfl) (by kernel_rfl) (by kernel_rfl) (by kernel_rfl) (c:=zjx) (lv:=zkT) ?_
 intro xs mem p out h hp
 unfold zjx at h
 split at h
 ·cases h
  exact zCQ _ (zuj _ hp) rfl
 ·cases h
end
end Go.Proofs.YtnolgfdjcipmmaaDoor.M
