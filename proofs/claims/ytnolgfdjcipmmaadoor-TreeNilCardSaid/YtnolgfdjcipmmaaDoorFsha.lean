/- Part of the proofs: what functions of the program do: plain functions, and the walks that show it. No condition. -/
import Derived.KernelRfl
import Derived.Test.YtnolgfdjcipmmaaDoorProg
import Derived.Test.YtnolgfdjcipmmaaDoorLe
import Derived.Test.YtnolgfdjcipmmaaDoorSwords
import Derived.Test.YtnolgfdjcipmmaaDoorSshaS
import Derived.Test.YtnolgfdjcipmmaaDoorFbits
import Derived.Test.YtnolgfdjcipmmaaDoorSshaK
set_option linter.unusedVariables false
set_option linter.unusedSimpArgs false
set_option autoImplicit false
namespace Go.Proofs.YtnolgfdjcipmmaaDoor.M
open Go
noncomputable section
def sha_Begin  : Vector UInt32 8 :=
  (Vector.setIfInBounds (Vector.setIfInBounds (Vector.setIfInBounds (Vector.setIfInBounds (Vector.setIfInBounds (Vector.setIfInBounds (Vector.setIfInBounds (Vector.setIfInBounds (Vector.replicate 8 (0:UInt32)) (0:Nat) (1779033703:UInt32)) (1:Nat) (3144134277:UInt32)) (2:Nat) (1013904242:UInt32)) (3:Nat) (2773480762:UInt32)) (4:Nat) (1359893119:UInt32)) (5:Nat) (2600822924:UInt32)) (6:Nat) (528734635:UInt32)) (7:Nat) (1541459225:UInt32))
end
end Go.Proofs.YtnolgfdjcipmmaaDoor.M
namespace Go.Proofs.YtnolgfdjcipmmaaDoor.M
open Go
noncomputable section
def sha_high_h0:Nat→UInt64→Int→Int→Int→(List UInt8)→Option (List UInt8)
  | 0,_,_,_,_,_=>none
  | k+1,n,many,t10,t11,b=>bif decide (t11 < t10) then(if(0:Int)≤(w64 ((8:Int)*t11)) then
        if((0:Int)≤(w64 ((w64 (many - (1:Int))) - t11)))∧((w64 ((w64 (many - (1:Int))) - t11)) < (((List.length b):Nat):Int)) then
          sha_high_h0 k n many t10 (w64 (t11+(1:Int))) (List.set b (Int.toNat (w64 ((w64 (many - (1:Int))) - t11))) (UInt64.toUInt8 (zaa n (Int.toNat (w64 ((8:Int)*t11))))))
        else none
      else none)
      else(some b)
def sha_high (k:Nat) (n:UInt64) (many:Int):Option (List UInt8) :=
  if((0:Int)≤many)∧((many≤many)∧(((many*(((1:Nat):Nat):Int))≤(((70368744177664:Nat):Nat):Int))∧(many≤((2:Int) ^ (62:Nat))))) then
    sha_high_h0 k n many (((List.length (List.replicate (Int.toNat many) (0:UInt8))):Nat):Int) (0:Int) (List.replicate (Int.toNat many) (0:UInt8))
  else none
theorem zvz (n:UInt64) (many:Int) (h:0≤many∧many≤64):∃ k,sha_high k n many=some (zbX n many.toNat):=by
  obtain ⟨m,rfl⟩:=Int.eq_ofNat_of_zero_le h.1
  have hm:m≤64:=by omega
  show Ev (fun k=>sha_high k n (m:Int)) _
  refine Ev.same (g:=fun k=>sha_high_h0 k n m m 0 (List.replicate m 0)) (fun k=>?_) ?_
  · rw[sha_high.eq_1,if_pos (by simp; omega)]
    simp
  · have hl:∀ i (l:List UInt8),(zbi (fun i l=>List.set l (m - 1 - i) (zaa n (8*i)).toUInt8) 0 i l).length=l.length:=by
      intro i
      induction i with
      | zero=>intro l; rfl
      | succ i ih=>intro l; rw[zcf,List.length_set,ih]
    refine Ev.up (H:=fun k i (b:{l:List UInt8 // l.length=m})=>sha_high_h0 k n m m i b.1) (lo:=0) (n:=m) (step:=fun i b=>⟨List.set b.1 (m - 1 - i) (zaa n (8*i)).toUInt8,by rw[List.length_set]; exact b.2⟩) ?_ m 0 ⟨List.replicate m 0,by simp⟩ (Nat.le_refl 0) (by omega) ?_
    · intro i b _ hi e
      refine Ev.step (fun k=>?_) e
      have a1:w64 (8*(i:Int))=((8*i:Nat):Int):=by rw[zao (by omega) (by omega)]; omega
      have a2:w64 ((m:Int) - 1)=((m - 1:Nat):Int):=by rw[zao (by omega) (by omega)]; omega
      have a3:w64 (((m - 1:Nat):Int) - (i:Int))=((m - 1 - i:Nat):Int):=by rw[zao (by omega) (by omega)]; omega
      have hb:=b.2
      rw[sha_high_h0.eq_2,zav (by omega),a1,a2,a3,if_pos (by omega),if_pos (by omega),zao (by omega) (by omega)]
      simp only[Int.toNat_natCast]
    · refine Ev.done fun k=>?_
      rw[sha_high_h0.eq_2,zax (by omega)]
      refine congrArg some ?_
      have gen:∀ i,i≤m→∀ j,j < m→(zbi (σ:={l:List UInt8 // l.length=m}) (fun i b=>⟨List.set b.1 (m - 1 - i) (zaa n (8*i)).toUInt8,by rw[List.length_set]; exact b.2⟩) 0 i ⟨List.replicate m 0,by simp⟩).1.getD j 0=if m - 1 - j < i then(zaa n (8*(m - 1 - j))).toUInt8 else 0:=by
        intro i
        induction i with
        | zero=>intro _ j _; simp only[zbi]; rw[zH0]; simp
        | succ i ih =>
          intro hi j hj
          rw[zcf,Nat.zero_add]
          simp only
          rw[zCF,ih (by omega) j hj]
          have hlen:=(zbi (σ:={l:List UInt8 // l.length=m}) (fun i b=>⟨List.set b.1 (m - 1 - i) (zaa n (8*i)).toUInt8,by rw[List.length_set]; exact b.2⟩) 0 i ⟨List.replicate m 0,by simp⟩).2
          rw[hlen]
          by_cases h1:m - 1 - i=j
          · rw[if_pos ⟨h1,by omega⟩,if_pos (by omega),show m - 1 - j=i by omega]
          · rw[if_neg (by omega)]
            by_cases h2:m - 1 - j < i
            · rw[if_pos h2,if_pos (by omega)]
            · rw[if_neg h2,if_neg (by omega)]
      have hlen:=(zbi (σ:={l:List UInt8 // l.length=m}) (fun i b=>⟨List.set b.1 (m - 1 - i) (zaa n (8*i)).toUInt8,by rw[List.length_set]; exact b.2⟩) 0 m ⟨List.replicate m 0,by simp⟩).2
      refine zHV 0 (by rw[hlen,zfX,Int.toNat_natCast]) fun j hj=>?_
      rw[hlen]at hj
      rw[gen m (Nat.le_refl m) j hj,if_pos (by omega)]
      simp[zbX,List.getD,hj]
end
end Go.Proofs.YtnolgfdjcipmmaaDoor.M
namespace Go.Proofs.YtnolgfdjcipmmaaDoor.M
open Go
noncomputable section
def sha_Padded (b:List UInt8):Option (List UInt8) :=
  if(
      (0:Int)≤(0:Int))∧(((0:Int)≤(w64 ((w64 ((w64 ((((List.length b):Nat):Int)+(1:Int)))+(Int.tmod (w64 ((w64 ((56:Int) - (Int.tmod (w64 ((((List.length b):Nat):Int)+(1:Int))) (64:Int))))+(64:Int))) (64:Int))))+(8:Int))))∧((((w64 ((w64 ((w64 ((((List.length b):Nat):Int)+(1:Int)))+(Int.tmod (w64 ((w64 ((56:Int) - (Int.tmod (w64 ((((List.length b):Nat):Int)+(1:Int))) (64:Int))))+(64:Int))) (64:Int))))+(8:Int)))*(((1:Nat):Nat):Int))≤(((70368744177664:Nat):Nat):Int))∧((w64 ((w64 ((w64 ((((List.length b):Nat):Int)+(1:Int)))+(Int.tmod (w64 ((w64 ((56:Int) - (Int.tmod (w64 ((((List.length b):Nat):Int)+(1:Int))) (64:Int))))+(64:Int))) (64:Int))))+(8:Int)))≤((2:Int) ^ (62:Nat))))) then
    if(
        ((
          List.length ((List.replicate (0:Nat) (0:UInt8))++b))*(1:Nat))≤(70368744177664:Nat))∧((List.length ((List.replicate (0:Nat) (0:UInt8))++b))≤(70368744177664:Nat)) then
      if(
          ((
            List.length (((List.replicate (0:Nat) (0:UInt8))++b)++([(128:UInt8)]:List UInt8)))*(1:Nat))≤(70368744177664:Nat))∧((List.length (((List.replicate (0:Nat) (0:UInt8))++b)++([(128:UInt8)]:List UInt8)))≤(70368744177664:Nat)) then
        if(
            ((0:Int)≤(Int.tmod (w64 ((w64 ((56:Int) - (Int.tmod (w64 ((((List.length b):Nat):Int)+(1:Int))) (64:Int))))+(64:Int))) (64:Int)))∧((Int.tmod (w64 ((w64 ((56:Int) - (Int.tmod (w64 ((((List.length b):Nat):Int)+(1:Int))) (64:Int))))+(64:Int))) (64:Int))≤((2:Int) ^ (62:Nat))))∧((((List.length ((((List.replicate (0:Nat) (0:UInt8))++b)++([(128:UInt8)]:List UInt8))++(List.replicate (Int.toNat (Int.tmod (w64 ((w64 ((56:Int) - (Int.tmod (w64 ((((List.length b):Nat):Int)+(1:Int))) (64:Int))))+(64:Int))) (64:Int))) (0:UInt8))))*(1:Nat))≤(70368744177664:Nat))∧((List.length ((((List.replicate (0:Nat) (0:UInt8))++b)++([(128:UInt8)]:List UInt8))++(List.replicate (Int.toNat (Int.tmod (w64 ((w64 ((56:Int) - (Int.tmod (w64 ((((List.length b):Nat):Int)+(1:Int))) (64:Int))))+(64:Int))) (64:Int))) (0:UInt8))))≤(70368744177664:Nat))) then
          if(((List.length (((((List.replicate (0:Nat) (0:UInt8))++b)++([(128:UInt8)]:List UInt8))++(List.replicate (Int.toNat (Int.tmod (w64 ((w64 ((56:Int) - (Int.tmod (w64 ((((List.length b):Nat):Int)+(1:Int))) (64:Int))))+(64:Int))) (64:Int))) (0:UInt8)))++(zbX (zah (UInt64.ofInt (((List.length b):Nat):Int)) (3:Nat)) (8:Nat))))*(1:Nat))≤(70368744177664:Nat))∧((List.length (((((List.replicate (0:Nat) (0:UInt8))++b)++([(128:UInt8)]:List UInt8))++(List.replicate (Int.toNat (Int.tmod (w64 ((w64 ((56:Int) - (Int.tmod (w64 ((((List.length b):Nat):Int)+(1:Int))) (64:Int))))+(64:Int))) (64:Int))) (0:UInt8)))++(zbX (zah (UInt64.ofInt (((List.length b):Nat):Int)) (3:Nat)) (8:Nat))))≤(70368744177664:Nat)) then
            some (((((List.replicate (0:Nat) (0:UInt8))++b)++([(128:UInt8)]:List UInt8))++(List.replicate (Int.toNat (Int.tmod (w64 ((w64 ((56:Int) - (Int.tmod (w64 ((((List.length b):Nat):Int)+(1:Int))) (64:Int))))+(64:Int))) (64:Int))) (0:UInt8)))++(zbX (zah (UInt64.ofInt (((List.length b):Nat):Int)) (3:Nat)) (8:Nat)))
          else none
        else none
      else none
    else none
  else none
theorem zsd (b:List UInt8) (hb:b.length≤1099511627776):sha_Padded b=some (zbD b):=by
  have z1:w64 (((List.length b:Nat):Int)+1)=((b.length+1:Nat):Int):=by rw[zao (by omega) (by omega)]; omega
  have z2:Int.tmod ((b.length+1:Nat):Int) 64=(((b.length+1) % 64:Nat):Int):=rfl
  have z3:w64 (56 - (((b.length+1) % 64:Nat):Int))=56 - (((b.length+1) % 64:Nat):Int):=zao (by omega) (by omega)
  have z4:w64 (56 - (((b.length+1) % 64:Nat):Int)+64)=((56+64 - (b.length+1) % 64:Nat):Int):=by rw[zao (by omega) (by omega)]; omega
  have z5:Int.tmod ((56+64 - (b.length+1) % 64:Nat):Int) 64=((zbz b.length:Nat):Int):=rfl
  have hz:zbz b.length < 64:=Nat.mod_lt _ (by omega)
  have z6:w64 (((b.length+1:Nat):Int)+((zbz b.length:Nat):Int))=((b.length+1+zbz b.length:Nat):Int):=by rw[zao (by omega) (by omega)]; omega
  have z7:w64 (((b.length+1+zbz b.length:Nat):Int)+8)=((b.length+1+zbz b.length+8:Nat):Int):=by rw[zao (by omega) (by omega)]; omega
  rw[sha_Padded.eq_1]
  simp only[z1,z2,z3,z4,z5,z6,z7]
  generalize hze:zbz b.length=z at hz
  have h8:(8:Int).toNat=8:=rfl
  simp only[List.replicate_zero,List.nil_append,Int.toNat_natCast,h8,List.length_append,List.length_cons,List.length_nil,List.length_replicate,zfX]
  rw[if_pos (by omega),if_pos (by omega),if_pos (by omega),if_pos (by omega),if_pos (by omega),←hze]
  rfl
end
end Go.Proofs.YtnolgfdjcipmmaaDoor.M
namespace Go.Proofs.YtnolgfdjcipmmaaDoor.M
open Go
noncomputable section
def sha_turn (x_0:UInt32) (n:Int):UInt32 :=
  (bits_RotateLeft32 x_0 (w64 ((0:Int) - n)))
end
end Go.Proofs.YtnolgfdjcipmmaaDoor.M
namespace Go.Proofs.YtnolgfdjcipmmaaDoor.M
open Go
noncomputable section
def sha_Round_h6:Nat→(Vector UInt32 8)→Int→(Vector UInt32 8)→(Vector UInt32 8)→Option (Vector UInt32 8)
  | 0,_,_,_,_=>none
  | k+1,t175,t176,s,t4=>bif decide (t176 < (8:Int)) then(if((0:Int)≤t176)∧(t176 < (8:Int)) then
        sha_Round_h6 k t175 (w64 (t176+(1:Int))) (Vector.setIfInBounds s (Int.toNat t176) ((List.getD (Vector.toList s) (Int.toNat t176) (0:UInt32))+(List.getD (Vector.toList t175) (Int.toNat t176) (0:UInt32)))) t4
      else none)
      else(some s)
def sha_Round_h4:Nat→UInt32→UInt32→UInt32→UInt32→UInt32→UInt32→UInt32→UInt32→Int→(Vector UInt32 8)→(Vector UInt32 8)→(Vector UInt32 64)→Option (Vector UInt32 8)
  | 0,_,_,_,_,_,_,_,_,_,_,_,_=>none
  | k+1,a,bb,c,d,e,f,g,h_,t104,s,t4,w=>bif decide (t104 < (64:Int)) then(if((0:Int)≤t104)∧(t104 < (64:Int)) then
        sha_Round_h4 k (((((h_+(((sha_turn e (6:Int)) ^^^ (sha_turn e (11:Int))) ^^^ (sha_turn e (25:Int))))+((e &&& f) ^^^ ((~~~e) &&& g)))+(List.getD (Vector.toList shaK) (Int.toNat t104) (0:UInt32)))+(List.getD (Vector.toList w) (Int.toNat t104) (0:UInt32)))+((((sha_turn a (2:Int)) ^^^ (sha_turn a (13:Int))) ^^^ (sha_turn a (22:Int)))+(((a &&& bb) ^^^ (a &&& c)) ^^^ (bb &&& c)))) a bb c (d+((((h_+(((sha_turn e (6:Int)) ^^^ (sha_turn e (11:Int))) ^^^ (sha_turn e (25:Int))))+((e &&& f) ^^^ ((~~~e) &&& g)))+(List.getD (Vector.toList shaK) (Int.toNat t104) (0:UInt32)))+(List.getD (Vector.toList w) (Int.toNat t104) (0:UInt32)))) e f g (w64 (t104+(1:Int))) s t4 w
      else none)
      else(sha_Round_h6 k (Vector.setIfInBounds (Vector.setIfInBounds (Vector.setIfInBounds (Vector.setIfInBounds (Vector.setIfInBounds (Vector.setIfInBounds (Vector.setIfInBounds (Vector.setIfInBounds (Vector.replicate 8 (0:UInt32)) (0:Nat) a) (1:Nat) bb) (2:Nat) c) (3:Nat) d) (4:Nat) e) (5:Nat) f) (6:Nat) g) (7:Nat) h_) (0:Int) s t4)
mutual
def sha_Round_h0:Nat→Int→(Vector UInt32 8)→(Vector UInt8 64)→(Vector UInt32 8)→(Vector UInt32 64)→Option (Vector UInt32 8)
  | 0,_,_,_,_,_=>none
  | k+1,t24,s,b,t4,w=>bif decide (t24 < (64:Int)) then(bif decide (t24 < (16:Int)) then(if((0:Int)≤(w64 ((4:Int)*t24)))∧(((w64 ((4:Int)*t24))≤(w64 ((w64 ((4:Int)*t24))+(4:Int))))∧((w64 ((w64 ((4:Int)*t24))+(4:Int)))≤(((64:Nat):Nat):Int))) then
          sha_Round_h2 k t24 t24 (Int.toNat (w64 ((4:Int)*t24))) ((Int.toNat (w64 ((w64 ((4:Int)*t24))+(4:Int)))) - (Int.toNat (w64 ((4:Int)*t24)))) ((64:Nat) - (Int.toNat (w64 ((4:Int)*t24)))) ((((Int.toNat (w64 ((w64 ((4:Int)*t24))+(4:Int)))) - (Int.toNat (w64 ((4:Int)*t24)))):Nat):Int) (0:Int) s b t4 w
        else none)
        else(
              if(
                  (0:Int)≤(w64 (t24 - (15:Int))))∧((w64 (t24 - (15:Int))) < (64:Int)) then
          if(
              (0:Int)≤(w64 (t24 - (2:Int))))∧((w64 (t24 - (2:Int))) < (64:Int)) then
            if(
                (0:Int)≤(w64 (t24 - (16:Int))))∧((w64 (t24 - (16:Int))) < (64:Int)) then
              if(
                  (0:Int)≤(w64 (t24 - (7:Int))))∧((w64 (t24 - (7:Int))) < (64:Int)) then
                if((0:Int)≤t24)∧(t24 < (64:Int)) then
                  sha_Round_h0 k (w64 (t24+(1:Int))) s b t4 (Vector.setIfInBounds w (Int.toNat t24) ((((List.getD (Vector.toList w) (Int.toNat (w64 (t24 - (16:Int)))) (0:UInt32))+(List.getD (Vector.toList w) (Int.toNat (w64 (t24 - (7:Int)))) (0:UInt32)))+(((sha_turn (List.getD (Vector.toList w) (Int.toNat (w64 (t24 - (15:Int)))) (0:UInt32)) (7:Int)) ^^^ (sha_turn (List.getD (Vector.toList w) (Int.toNat (w64 (t24 - (15:Int)))) (0:UInt32)) (18:Int))) ^^^ (zaE (List.getD (Vector.toList w) (Int.toNat (w64 (t24 - (15:Int)))) (0:UInt32)) (3:Nat))))+(((sha_turn (List.getD (Vector.toList w) (Int.toNat (w64 (t24 - (2:Int)))) (0:UInt32)) (17:Int)) ^^^ (sha_turn (List.getD (Vector.toList w) (Int.toNat (w64 (t24 - (2:Int)))) (0:UInt32)) (19:Int))) ^^^ (zaE (List.getD (Vector.toList w) (Int.toNat (w64 (t24 - (2:Int)))) (0:UInt32)) (10:Nat)))))
                else none
              else none
            else none
          else none
        else none))
      else(sha_Round_h4 k (List.getD (Vector.toList s) (0:Nat) (0:UInt32)) (List.getD (Vector.toList s) (1:Nat) (0:UInt32)) (List.getD (Vector.toList s) (2:Nat) (0:UInt32)) (List.getD (Vector.toList s) (3:Nat) (0:UInt32)) (List.getD (Vector.toList s) (4:Nat) (0:UInt32)) (List.getD (Vector.toList s) (5:Nat) (0:UInt32)) (List.getD (Vector.toList s) (6:Nat) (0:UInt32)) (List.getD (Vector.toList s) (7:Nat) (0:UInt32)) (0:Int) s t4 w)
def sha_Round_h2:Nat→Int→Int→Nat→Nat→Nat→Int→Int→(Vector UInt32 8)→(Vector UInt8 64)→(Vector UInt32 8)→(Vector UInt32 64)→Option (Vector UInt32 8)
  | 0,_,_,_,_,_,_,_,_,_,_,_=>none
  | k+1,i,t24,t34,t341,t342,t35,t36,s,b,t4,w=>bif decide (t36 < t35) then(if((0:Int)≤t36)∧(t36 < ((t341:Nat):Int)) then
        if((0:Int)≤i)∧(i < (64:Int)) then
          sha_Round_h2 k i t24 t34 t341 t342 t35 (w64 (t36+(1:Int))) s b t4 (Vector.setIfInBounds w (Int.toNat i) ((zbA (List.getD (Vector.toList w) (Int.toNat i) (0:UInt32)) (8:Nat)) ||| (UInt8.toUInt32 (List.getD (Vector.toList b) (t34+(Int.toNat t36)) (0:UInt8)))))
        else none
      else none)
      else(sha_Round_h0 k (w64 (t24+(1:Int))) s b t4 w)
end
def sha_Round (k:Nat) (s:Vector UInt32 8) (b:Vector UInt8 64):Option (Vector UInt32 8) :=
  sha_Round_h0 k (0:Int) s b (Vector.replicate 8 (0:UInt32)) (Vector.replicate 64 (0:UInt32))
theorem zsv (x:UInt32):sha_turn x 2=shT x 2∧sha_turn x 6=shT x 6∧sha_turn x 7=shT x 7∧sha_turn x 11=shT x 11∧sha_turn x 13=shT x 13∧sha_turn x 17=shT x 17∧sha_turn x 18=shT x 18∧sha_turn x 19=shT x 19∧sha_turn x 22=shT x 22∧sha_turn x 25=shT x 25:=by
  have h:∀ (n m:Nat),(UInt64.toNat ((UInt64.ofInt (w64 (0 - (n:Int)))) &&& 31))=m→(UInt64.toNat (32 - ((UInt64.ofInt (w64 (0 - (n:Int)))) &&& 31)))=n→32 - n=m→sha_turn x n=shT x n:=by
    intro n m h1 h2 h3
    unfold sha_turn bits_RotateLeft32 shT
    rw[h1,h2,h3,UInt32.or_comm]
  refine ⟨h 2 30 ?_ ?_ rfl,h 6 26 ?_ ?_ rfl,h 7 25 ?_ ?_ rfl,h 11 21 ?_ ?_ rfl,h 13 19 ?_ ?_ rfl,h 17 15 ?_ ?_ rfl,h 18 14 ?_ ?_ rfl,h 19 13 ?_ ?_ rfl,h 22 10 ?_ ?_ rfl,h 25 7 ?_ ?_ rfl⟩<;>decide +kernel
theorem zzk (x s t4:Vector UInt32 8):Ev (fun k=>sha_Round_h6 k x 0 s t4) (zo1 s x):=by
  refine Ev.up (H:=fun k i s=>sha_Round_h6 k x i s t4) (n:=8) (step:=fun i (a:Vector UInt32 8)=>Vector.setIfInBounds a i (List.getD (Vector.toList a) i 0+List.getD (Vector.toList x) i 0)) ?_ 8 0 s (Nat.le_refl 0) rfl ?_
  · intro i s _ hi e
    refine Ev.step (fun k=>?_) e
    rw[sha_Round_h6.eq_2,zav (by omega),if_pos (by omega),zao (by omega) (by omega),Int.toNat_natCast]
  · refine Ev.done fun k=>?_
    rw[sha_Round_h6.eq_2,zax (by omega),zrF]
theorem zyJ (s t4:Vector UInt32 8) (w:Vector UInt32 64) (v:Vector UInt32 8) :
    Ev (fun k=>sha_Round_h4 k (shG v 0) (shG v 1) (shG v 2) (shG v 3) (shG v 4) (shG v 5) (shG v 6) (shG v 7) 0 s t4 w) (zo1 s (zbi (zr9 shaK w) 0 64 v)):=by
  refine Ev.up (H:=fun k i v=>sha_Round_h4 k (shG v 0) (shG v 1) (shG v 2) (shG v 3) (shG v 4) (shG v 5) (shG v 6) (shG v 7) i s t4 w) (n:=64) (step:=zr9 shaK w) ?_ 64 0 v (Nat.le_refl 0) rfl ?_
  · intro i v _ hi e
    refine Ev.step (fun k=>?_) e
    rw[sha_Round_h4.eq_2,zav (by omega),if_pos (by omega),zao (by omega) (by omega),Int.toNat_natCast]
    have t:=fun x=>zsv x
    simp only[(t _).1,(t _).2.1,(t _).2.2.1,(t _).2.2.2.1,(t _).2.2.2.2.1,(t _).2.2.2.2.2.1,(t _).2.2.2.2.2.2.1,(t _).2.2.2.2.2.2.2.1,(t _).2.2.2.2.2.2.2.2.1,(t _).2.2.2.2.2.2.2.2.2]
    rfl
  · refine Ev.step (fun k=>?_) (zzk (zbi (zr9 shaK w) 0 64 v) s t4)
    rw[sha_Round_h4.eq_2,zax (by omega)]
    generalize zbi (zr9 shaK w) 0 64 v=x
    refine congrArg (fun y=>sha_Round_h6 k y 0 s t4) ?_
    refine vext 0 fun j hj=>?_
    have:j=0∨j=1∨j=2∨j=3∨j=4∨j=5∨j=6∨j=7:=by omega
    rcases this with h | h | h | h | h | h | h | h<;>subst h<;>simp[zaC,shG]
theorem zvN (s:Vector UInt32 8) (b:Vector UInt8 64):∃ k,sha_Round k s b=some (zhq shaK s (fun i=>List.getD (Vector.toList b) i 0)):=by
  show Ev (fun k=>sha_Round k s b) _
  refine Ev.same (fun k=>sha_Round.eq_1 k s b) ?_
  let t4:Vector UInt32 8:=Vector.replicate 8 0
  have h2:Ev (fun k=>sha_Round_h0 k ((16:Nat):Int) s b t4 (zbi (zlr fun i=>List.getD (Vector.toList b) i 0) 0 16 (Vector.replicate 64 0))) (zhq shaK s (fun i=>List.getD (Vector.toList b) i 0)):=by
    have:Ev (fun k=>sha_Round_h0 k ((64:Nat):Int) s b t4 (shW fun i=>List.getD (Vector.toList b) i 0)) (zhq shaK s (fun i=>List.getD (Vector.toList b) i 0)):=by
      refine Ev.step (fun k=>?_) (zyJ s t4 (shW fun i=>List.getD (Vector.toList b) i 0) s)
      rw[sha_Round_h0.eq_2,zax (by omega)]
      rfl
    refine Ev.up (H:=fun k i w=>sha_Round_h0 k i s b t4 w) (lo:=16) (n:=64) (step:=fun i w=>Vector.setIfInBounds w i (zw7 w i)) ?_ 48 16 _ (Nat.le_refl 16) rfl this
    intro i w h16 hi e
    refine Ev.step (fun k=>?_) e
    have a1:w64 ((i:Int) - 15)=((i - 15:Nat):Int):=by rw[zao (by omega) (by omega)]; omega
    have a2:w64 ((i:Int) - 2)=((i - 2:Nat):Int):=by rw[zao (by omega) (by omega)]; omega
    have a3:w64 ((i:Int) - 16)=((i - 16:Nat):Int):=by rw[zao (by omega) (by omega)]; omega
    have a4:w64 ((i:Int) - 7)=((i - 7:Nat):Int):=by rw[zao (by omega) (by omega)]; omega
    rw[sha_Round_h0.eq_2,zav (by omega),zax (by omega),a1,a2,a3,a4,if_pos (by omega),if_pos (by omega),if_pos (by omega),if_pos (by omega),if_pos (by omega),zao (by omega) (by omega)]
    simp only[Int.toNat_natCast]
    have t:=fun x=>zsv x
    simp only[(t _).1,(t _).2.1,(t _).2.2.1,(t _).2.2.2.1,(t _).2.2.2.2.1,(t _).2.2.2.2.2.1,(t _).2.2.2.2.2.2.1,(t _).2.2.2.2.2.2.2.1,(t _).2.2.2.2.2.2.2.2.1,(t _).2.2.2.2.2.2.2.2.2]
    rfl
  refine Ev.up (H:=fun k i w=>sha_Round_h0 k i s b t4 w) (n:=16) (step:=zlr fun i=>List.getD (Vector.toList b) i 0) ?_ 16 0 _ (Nat.le_refl 0) rfl h2
  intro i w _ hi e
  have a1:w64 (4*(i:Int))=((4*i:Nat):Int):=by rw[zao (by omega) (by omega)]; omega
  have a2:w64 (((4*i:Nat):Int)+4)=((4*i+4:Nat):Int):=by rw[zao (by omega) (by omega)]; omega
  refine Ev.step (g:=fun k=>sha_Round_h2 k i i (4*i) 4 (64 - 4*i) 4 0 s b t4 w) (fun k=>?_) ?_
  · rw[sha_Round_h0.eq_2,zav (by omega),zav (by omega),a1,a2,if_pos (by omega)]
    simp only[Int.toNat_natCast]
    rw[show 4*i+4 - 4*i=4 by omega]
    rfl
  · refine Ev.up (H:=fun k j w=>sha_Round_h2 k i i (4*i) 4 (64 - 4*i) 4 j s b t4 w) (n:=4) (step:=fun j w=>Vector.setIfInBounds w i (zFV (List.getD (Vector.toList w) i 0) (List.getD (Vector.toList b) (4*i+j) 0))) ?_ 4 0 w (Nat.le_refl 0) rfl ?_
    · intro j w _ hj e
      refine Ev.step (fun k=>?_) e
      rw[sha_Round_h2.eq_2,zav (by omega),if_pos (by omega),if_pos (by omega),zao (by omega) (by omega)]
      simp only[Int.toNat_natCast]
      rfl
    · refine Ev.step (fun k=>?_) e
      rw[sha_Round_h2.eq_2,zax (by omega),zao (by omega) (by omega)]
      rfl
theorem ztH (s:Vector UInt32 8) (b:Vector UInt8 64):∃ k,sha_Round k s b=some (zc3 shaK s (fun i=>List.getD (Vector.toList b) i 0)):=by
  rw[zfW]; exact zvN s b
end
end Go.Proofs.YtnolgfdjcipmmaaDoor.M
namespace Go.Proofs.YtnolgfdjcipmmaaDoor.M
open Go
noncomputable section
def sha_Sum_h2:Nat→(Vector UInt32 8)→Int→(Vector UInt8 32)→(Vector UInt8 32)→Option (Vector UInt8 32)
  | 0,_,_,_,_=>none
  | k+1,t27,t28,t2,out=>bif decide (t28 < (8:Int)) then(if((0:Int)≤t28)∧(t28 < (8:Int)) then
        if((0:Int)≤(w64 ((4:Int)*t28)))∧(((w64 ((4:Int)*t28))≤(32:Int))∧((32:Int)≤(((32:Nat):Nat):Int))) then
          sha_Sum_h2 k t27 (w64 (t28+(1:Int))) t2 (Vector.ofFn (fun(z5:Fin 32)=>(List.getD (zcy (Int.toNat (w64 ((4:Int)*t28))) (Min.min (List.length (zbX (UInt32.toUInt64 (List.getD (Vector.toList t27) (Int.toNat t28) (0:UInt32))) (4:Nat))) ((Int.toNat (32:Int)) - (Int.toNat (w64 ((4:Int)*t28))))) (Vector.toList out) (zbX (UInt32.toUInt64 (List.getD (Vector.toList t27) (Int.toNat t28) (0:UInt32))) (4:Nat))) ((0:Nat)+(Fin.val z5)) (0:UInt8))))
        else none
      else none)
      else(some out)
def sha_Sum_h0:Nat→Int→(Vector UInt8 32)→(Vector UInt32 8)→(List UInt8)→Option (Vector UInt8 32)
  | 0,_,_,_,_=>none
  | k+1,i,t2,s,p=>bif decide (i < (((List.length p):Nat):Int)) then(if((0:Int)≤i)∧((i≤(w64 (i+(64:Int))))∧((w64 (i+(64:Int)))≤(((List.length p):Nat):Int))) then
        if((64:Nat)≤((Int.toNat (w64 (i+(64:Int)))) - (Int.toNat i)))∧((0:Nat) < (64:Nat)) then
          sha_Sum_h0 k (w64 (i+(64:Int))) t2 (zc3 shaK s (fun(z5:Nat)=>(List.getD (Vector.toList (Vector.ofFn (fun(z6:Fin 64)=>(List.getD p ((Int.toNat i)+(Fin.val z6)) (0:UInt8))))) z5 (0:UInt8)))) p
        else none
      else none)
      else(sha_Sum_h2 k s (0:Int) t2 (Vector.replicate 32 (0:UInt8)))
def sha_Sum (k:Nat) (b:List UInt8):Option (Vector UInt8 32) :=
  if(List.length b)≤(1099511627776:Nat) then
    sha_Sum_h0 k (0:Int) (Vector.replicate 32 (0:UInt8)) sha_Begin (zbD b)
  else none
theorem zx4:sha_Begin=zb4:=by rfl
def zCv (s:Vector UInt32 8) (i:Nat) (out:Vector UInt8 32):Vector UInt8 32 :=
  Vector.ofFn (fun(z5:Fin 32)=>(List.getD (zcy (4*i) 4 (Vector.toList out) (zbX (UInt32.toUInt64 (List.getD (Vector.toList s) i (0:UInt32))) (4:Nat))) ((0:Nat)+(Fin.val z5)) (0:UInt8)))
theorem zDB (s:Vector UInt32 8) (i:Nat) (out:Vector UInt8 32) (hi:i < 8) (j:Nat) (hj:j < 32):(zCv s i out).toList.getD j 0=if 4*i≤j∧j < 4*i+4 then zlX s j else out.toList.getD j 0:=by
  unfold zCv
  rw[zrE _ _ _ hj,Nat.zero_add]
  dsimp only
  rw[zC1 _ _ _ _ _ _ (by simp; omega) (by simp[zfX])]
  split
  · rename_i h
    rw[zBe _ _ _ (by omega),zEE _ _ (by omega)]
    unfold zlX shG
    rw[show i=j / 4 by omega,show 8*(4 - 1 - (j - 4*(j / 4)))=24 - 8*(j % 4) by omega]
  · rfl
theorem zDi (s:Vector UInt32 8) (t2 out:Vector UInt8 32):Ev (fun k=>sha_Sum_h2 k s 0 t2 out) (zt3 s):=by
  refine Ev.up (H:=fun k i out=>sha_Sum_h2 k s i t2 out) (lo:=0) (n:=8) (step:=zCv s) ?_ 8 0 out (Nat.le_refl 0) rfl ?_
  · intro i out _ hi e
    refine Ev.step (fun k=>?_) e
    have a1:w64 (4*(i:Int))=((4*i:Nat):Int):=by rw[zao (by omega) (by omega)]; omega
    have a2:min 4 (Int.toNat (32:Int) - 4*i)=4:=by simp; omega
    rw[sha_Sum_h2.eq_2,zav (by omega),if_pos (by omega),if_pos (by rw[a1]; omega),a1,zao (by omega) (by omega)]
    simp only[Int.toNat_natCast,zfX,a2]
    rfl
  · refine Ev.done fun k=>?_
    rw[sha_Sum_h2.eq_2,zax (by omega)]
    refine congrArg some ?_
    have gen:∀ m,m≤8→∀ j,j < 32→(zbi (zCv s) 0 m out).toList.getD j 0=if j < 4*m then zlX s j else out.toList.getD j 0:=by
      intro m
      induction m with
      | zero=>intro _ j _; rw[if_neg (by omega)]; rfl
      | succ m ih =>
        intro hm j hj
        rw[zcf,Nat.zero_add,zDB s m _ (by omega) j hj,ih (by omega) j hj]
        by_cases h:j < 4*m
        · rw[if_neg (by omega),if_pos h,if_pos (by omega)]
        · by_cases h2:j < 4*m+4
          · rw[if_pos (by omega),if_pos (by omega)]
          · rw[if_neg (by omega),if_neg h,if_neg (by omega)]
    refine vext 0 fun j hj=>?_
    rw[gen 8 (Nat.le_refl _) j hj,if_pos (by omega)]
    exact (zrE (fun i:Fin 32=>zlX s i.val) j 0 hj).symm
theorem zxY (b:List UInt8) (hb:b.length≤1099511627776):∃ k,sha_Sum k b=some (zaQ b):=by
  show Ev (fun k=>sha_Sum k b) _
  refine Ev.same (fun k=>by rw[sha_Sum.eq_1,if_pos hb,zx4]) ?_
  obtain ⟨p1,p2,p3⟩:=zuZ b
  have gen:∀ n s,n*64≤(zbD b).length→s=ziQ (zbD b) n→Ev (fun k=>sha_Sum_h0 k ((64*n:Nat):Int) (Vector.replicate 32 0) s (zbD b)) (zaQ b):=by
    intro n s hn hs
    generalize hm:(zbD b).length / 64 - n=m
    induction m generalizing n s with
    | zero =>
      have h1:n=(zbD b).length / 64:=by omega
      have h2:zaQ b=zt3 s:=by rw[zeP,←h1,←hs]
      rw[h2]
      refine Ev.step (fun k=>?_) (zDi s (Vector.replicate 32 0) (Vector.replicate 32 0))
      rw[sha_Sum_h0.eq_2,zax (by omega)]
    | succ m ih =>
      refine Ev.step (fun k=>?_) (ih (n+1) (ziQ (zbD b) (n+1)) (by omega) rfl (by omega))
      have a1:w64 (((64*n:Nat):Int)+64)=((64*(n+1):Nat):Int):=by rw[zao (by omega) (by omega)]; omega
      rw[sha_Sum_h0.eq_2,zav (by omega),a1,if_pos (by omega),if_pos (by omega)]
      subst hs
      simp only[Int.toNat_natCast]
      refine congrArg (fun y=>sha_Sum_h0 k ((64*(n+1):Nat):Int) (Vector.replicate 32 0) y (zbD b)) ?_
      exact zlC fun j hj=>zrE (fun z:Fin 64=>(zbD b).getD (64*n+z.val) 0) j 0 hj
  exact gen 0 _ (by omega) rfl
end
end Go.Proofs.YtnolgfdjcipmmaaDoor.M
namespace Go.Proofs.YtnolgfdjcipmmaaDoor.M
open Go
noncomputable section
def sha_Twice (b:List UInt8):Option (Vector UInt8 32) :=
  if(
      List.length b)≤(1099511627776:Nat) then
    if(List.length (List.take ((Int.toNat (32:Int)) - (Int.toNat (0:Int))) (List.drop (Int.toNat (0:Int)) (Vector.toList (zaQ b)))))≤(1099511627776:Nat) then
      some (zaQ (List.take ((Int.toNat (32:Int)) - (Int.toNat (0:Int))) (List.drop (Int.toNat (0:Int)) (Vector.toList (zaQ b)))))
    else none
  else none
theorem ztv (b:List UInt8) (hb:b.length≤1099511627776):sha_Twice b=some (zaQ (Vector.toList (zaQ b))):=by
  rw[sha_Twice.eq_1,if_pos hb,zGW,if_pos (by simp)]
end
end Go.Proofs.YtnolgfdjcipmmaaDoor.M
namespace Go.Proofs.YtnolgfdjcipmmaaDoor.M
open Go
noncomputable section
set_option maxRecDepth 100000
set_option maxHeartbeats 0
noncomputable def zmA:Tbl:=[]
noncomputable def zsu:CfgW:=mkC Tryd.prog theG zmA 2 0 false
def zkd:Nat→List Nat:=fun i=>[]
noncomputable abbrev zlS:Code:=Tryd.f74.body.getD .skip
noncomputable abbrev zqQ:List ResultVar:=Tryd.f74.results.toList
def zjF:List Nat:=[]
def zfm (r:Vector UInt32 8):CallOut:=⟨.pv (.arr .u32 8 r),[],true,[]⟩
theorem zA3  (Q:CallOut→Prop):zab zsu zkd zqQ zjF zlS [] [] Q =
    (Q (zfm (Vector.setIfInBounds (Vector.setIfInBounds (Vector.setIfInBounds (Vector.setIfInBounds (Vector.setIfInBounds (Vector.setIfInBounds (Vector.setIfInBounds (Vector.setIfInBounds (Vector.replicate 8 (0:UInt32)) (0:Nat) (1779033703:UInt32)) (1:Nat) (3144134277:UInt32)) (2:Nat) (1013904242:UInt32)) (3:Nat) (2773480762:UInt32)) (4:Nat) (1359893119:UInt32)) (5:Nat) (2600822924:UInt32)) (6:Nat) (528734635:UInt32)) (7:Nat) (1541459225:UInt32)))):=by kernel_rfl
theorem zAr  {Q:CallOut→Prop} (h:Q (zfm (sha_Begin ))):zab zsu zkd zqQ zjF zlS [] [] Q :=
  Eq.mpr (zA3  Q) (have h:=Eq.mp (congrArg (fun r=>Q (zfm r)) (sha_Begin.eq_1 )) h; h)
def zjh:Ans
  | [],[]=>some (none,zfm (sha_Begin ))
  | _,_=>none
theorem zva:TblOK Tryd.prog theG zmA:=.nil
theorem zzL:FnOK Tryd.prog theG 74 (unW zjh):=by
  refine FnOK.ofC (T:=zmA) (nt:=2) (np:=0) (mv:=[]) (nf:=false) (hs:=zjF) (fn:=Tryd.f74) (body:=zlS) zva (by kernel_rfl) (by kernel_rfl) (by kernel_rfl) (by kernel_rfl) (c:=zjh) (lv:=zkd) ?_
  intro xs mem p out h hp
  unfold zjh at h
  split at h
  · cases h
    exact zAr  rfl
  · cases h
end
end Go.Proofs.YtnolgfdjcipmmaaDoor.M
namespace Go.Proofs.YtnolgfdjcipmmaaDoor.M
open Go
noncomputable section
set_option maxRecDepth 100000
set_option maxHeartbeats 0
noncomputable def zoa:Tbl:=[]
noncomputable def zcr:CfgW:=mkC Tryd.prog theG zoa 27 0 false
def zc8:Nat→List Nat:=fun i=>bif Nat.beq i 0 then [0,1,5,10,11]else []
noncomputable abbrev zec:Code:=Tryd.f77.body.getD .skip
noncomputable abbrev zfC:List ResultVar:=Tryd.f77.results.toList
def zdi:List Nat:=[]
def zeT (r:List UInt8):CallOut:=⟨.o 60000,[(60000,.row (.s .u8 r) false)],true,[]⟩
def zja (n:UInt64) (many:Int) (t10:Int) (t11:Int) (b:List UInt8):St:=⟨[(0,.pv (.sc .u64 n)),(1,.pv (.sc .i many)),(5,.o 60000),(10,.pv (.sc .i t10)),(11,.pv (.sc .i t11))],[(60000,.row (.s .u8 b) true)]⟩
theorem zAI (n:UInt64) (many:Int) (t10:Int) (t11:Int) (b:List UInt8) (Q:CallOut→Prop):zaB zcr zc8 [true,true,false,true,false] zec (zja n many t10 t11 b) (fnK zcr zfC zdi Q) =
    (zal (decide (t11 < t10)) (((0:Int)≤(w64 ((8:Int)*t11)))∧((((0:Int)≤(w64 ((w64 (many - (1:Int))) - t11)))∧((w64 ((w64 (many - (1:Int))) - t11)) < (((List.length b):Nat):Int)))∧(zat zcr zc8 [true,true,false,true,false] zec (zja n many t10 (w64 (t11+(1:Int))) (List.set b (Int.toNat (w64 ((w64 (many - (1:Int))) - t11))) (UInt64.toUInt8 (zaa n (Int.toNat (w64 ((8:Int)*t11))))))) (fnK zcr zfC zdi Q)))) (Q (zeT b))):=by kernel_rfl
theorem zrX {r:List UInt8} {Q:CallOut→Prop} (hQ:Q (zeT r)):∀ k:Nat,(∀ (n:UInt64) (many:Int) (t10:Int) (t11:Int) (b:List UInt8),sha_high_h0 k n many t10 t11 b=some r→zat zcr zc8 [true,true,false,true,false] zec (zja n many t10 t11 b) (fnK zcr zfC zdi Q))
  | 0=>fun _ _ _ _ _ h=>zcN h
  | k+1=>fun n many t10 t11 b h=>zau (Eq.mpr (zAI n many t10 t11 b Q) (have h:=(sha_high_h0.eq_2 n many t10 t11 b k).symm.trans h; zae h (fun h=>zad h fun hc0 h=>zad h fun hc1 h=>(zrX hQ k) _ _ _ _ _ h) (fun h=>zam (Q:=Q) (e:=zeT) h hQ)))
theorem zDf (n:UInt64) (many:Int) (Q:CallOut→Prop):zab zcr zc8 zfC zdi zec [.pv (.sc .u64 n),.pv (.sc .i many)] [] Q =
    ((((0:Int)≤many)∧((many≤many)∧(((many*(((1:Nat):Nat):Int))≤(((70368744177664:Nat):Nat):Int))∧(many≤((2:Int) ^ (62:Nat))))))∧(zat zcr zc8 [true,true,false,true,false] zec (zja n many (((List.length (List.replicate (Int.toNat many) (0:UInt8))):Nat):Int) (0:Int) (List.replicate (Int.toNat many) (0:UInt8))) (fnK zcr zfC zdi Q))):=by kernel_rfl
theorem zDv {k:Nat} (n:UInt64) (many:Int) {r} {Q:CallOut→Prop} (h:sha_high k n many=some r) (hQ:Q (zeT r)):zab zcr zc8 zfC zdi zec [.pv (.sc .u64 n),.pv (.sc .i many)] [] Q :=
  Eq.mpr (zDf n many Q) (have h:=(sha_high.eq_1 k n many).symm.trans h; zad h fun hc0 h=>(zrX hQ _) _ _ _ _ _ h)
def zhF:Ans
  | [.pv (.sc .u64 n),.pv (.sc .i many)],[]=>some (some (0≤many∧many≤64),zeT (zbX n many.toNat))
  | _,_=>none
theorem zyz:TblOK Tryd.prog theG zoa:=.nil
theorem zsk:FnOK Tryd.prog theG 77 (unW zhF):=by
  refine FnOK.ofC (T:=zoa) (nt:=27) (np:=0) (mv:=[]) (nf:=false) (hs:=zdi) (fn:=Tryd.f77) (body:=zec) zyz (by kernel_rfl) (by kernel_rfl) (by kernel_rfl) (by kernel_rfl) (c:=zhF) (lv:=zc8) ?_
  intro xs mem p out h hp
  unfold zhF at h
  split at h
  · cases h
    obtain ⟨k,hk⟩:=zvz _ _ hp
    exact zDv _ _ hk rfl
  · cases h
end
end Go.Proofs.YtnolgfdjcipmmaaDoor.M
namespace Go.Proofs.YtnolgfdjcipmmaaDoor.M
open Go
noncomputable section
set_option maxRecDepth 100000
set_option maxHeartbeats 0
noncomputable def zko:Tbl:=[(77,[],zhF)]
noncomputable def zo9:CfgW:=mkC Tryd.prog theG zko 35 0 false
def zjm:Nat→List Nat:=fun i=>[]
noncomputable abbrev zkB:Code:=Tryd.f75.body.getD .skip
noncomputable abbrev zpf:List ResultVar:=Tryd.f75.results.toList
def zif:List Nat:=[]
def zeq (r:List UInt8):CallOut:=⟨.o 60000,[(60000,.row (.s .u8 r) false)],true,[]⟩
theorem zzO (b:List UInt8) (Q:CallOut→Prop):zab zo9 zjm zpf zif zkB [.pv (.sl .u8 b)] [] Q =
  (let s0:=(Int.tmod (w64 ((w64 ((56:Int) - (Int.tmod (w64 ((((List.length b):Nat):Int)+(1:Int))) (64:Int))))+(64:Int))) (64:Int));let s1:=((((List.replicate (0:Nat) (0:UInt8))++b)++([(128:UInt8)]:List UInt8))++(List.replicate (Int.toNat  s0 ) (0:UInt8)));let s2:=( s1 ++(zbX (zah (UInt64.ofInt (((List.length b):Nat):Int)) (3:Nat)) (8:Nat)));let s3:=(w64 ((w64 ((w64 ((((List.length b):Nat):Int)+(1:Int)))+ s0 ))+(8:Int)));(((64:Int)≠(0:Int))∧(((64:Int)≠(0:Int))∧((((0:Int)≤(0:Int))∧(((0:Int)≤ s3 )∧((( s3 *(((1:Nat):Nat):Int))≤(((70368744177664:Nat):Nat):Int))∧( s3 ≤((2:Int) ^ (62:Nat))))))∧(((((List.length ((List.replicate (0:Nat) (0:UInt8))++b))*(1:Nat))≤(70368744177664:Nat))∧((List.length ((List.replicate (0:Nat) (0:UInt8))++b))≤(70368744177664:Nat)))∧(((((List.length (((List.replicate (0:Nat) (0:UInt8))++b)++([(128:UInt8)]:List UInt8)))*(1:Nat))≤(70368744177664:Nat))∧((List.length (((List.replicate (0:Nat) (0:UInt8))++b)++([(128:UInt8)]:List UInt8)))≤(70368744177664:Nat)))∧(((((0:Int)≤ s0 )∧( s0 ≤((2:Int) ^ (62:Nat))))∧((((List.length  s1 )*(1:Nat))≤(70368744177664:Nat))∧((List.length  s1 )≤(70368744177664:Nat))))∧((((0:Int)≤(8:Int))∧((8:Int)≤(64:Int)))∧(((((List.length  s2 )*(1:Nat))≤(70368744177664:Nat))∧((List.length  s2 )≤(70368744177664:Nat)))∧(Q (zeq  s2 ))))))))))):=by kernel_rfl
theorem zyB (b:List UInt8) {r} {Q:CallOut→Prop} (h:sha_Padded b=some r) (hQ:Q (zeq r)):zab zo9 zjm zpf zif zkB [.pv (.sl .u8 b)] [] Q :=
  Eq.mpr (zzO b Q) (have h:=(sha_Padded.eq_1 b).symm.trans h; ⟨by decide +kernel,⟨by decide +kernel,zad h fun hc0 h=>zad h fun hc1 h=>zad h fun hc2 h=>zad h fun hc3 h=>⟨by decide +kernel,zad h fun hc4 h=>zam (Q:=Q) (e:=zeq) h hQ⟩⟩⟩)
def zgs:Ans
  | [.pv (.sl .u8 b)],[]=>some (some (b.length≤1099511627776),zeq (zbD b))
  | _,_=>none
theorem ztC:TblOK Tryd.prog theG zko:=.cons ⟨by kernel_rfl,zsk⟩ (.nil)
theorem zwi:FnOK Tryd.prog theG 75 (unW zgs):=by
  refine FnOK.ofC (T:=zko) (nt:=35) (np:=0) (mv:=[]) (nf:=false) (hs:=zif) (fn:=Tryd.f75) (body:=zkB) ztC (by kernel_rfl) (by kernel_rfl) (by kernel_rfl) (by kernel_rfl) (c:=zgs) (lv:=zjm) ?_
  intro xs mem p out h hp
  unfold zgs at h
  split at h
  · cases h
    exact zyB _ (zsd _ hp) rfl
  · cases h
end
end Go.Proofs.YtnolgfdjcipmmaaDoor.M
namespace Go.Proofs.YtnolgfdjcipmmaaDoor.M
open Go
noncomputable section
set_option maxRecDepth 100000
set_option maxHeartbeats 0
noncomputable def zoz:Tbl:=[(92,[],zb6)]
noncomputable def zuc:CfgW:=mkC Tryd.prog theG zoz 9 0 false
def zmL:Nat→List Nat:=fun i=>[]
noncomputable abbrev zou:Code:=Tryd.f86.body.getD .skip
noncomputable abbrev zuK:List ResultVar:=Tryd.f86.results.toList
def zmq:List Nat:=[]
def zgJ (r:UInt32):CallOut:=⟨.pv (.sc .u32 r),[],true,[]⟩
theorem zCR (x_0:UInt32) (n:Int) (Q:CallOut→Prop):zab zuc zmL zuK zmq zou [.pv (.sc .u32 x_0),.pv (.sc .i n)] [] Q =
    (Q (zgJ (bits_RotateLeft32 x_0 (w64 ((0:Int) - n))))):=by kernel_rfl
theorem zD9 (x_0:UInt32) (n:Int) {Q:CallOut→Prop} (h:Q (zgJ (sha_turn x_0 n))):zab zuc zmL zuK zmq zou [.pv (.sc .u32 x_0),.pv (.sc .i n)] [] Q :=
  Eq.mpr (zCR x_0 n Q) (have h:=Eq.mp (congrArg (fun r=>Q (zgJ r)) (sha_turn.eq_1 x_0 n)) h; h)
def zlg:Ans
  | [.pv (.sc .u32 x_0),.pv (.sc .i n)],[]=>some (none,zgJ (sha_turn x_0 n))
  | _,_=>none
theorem zzl:TblOK Tryd.prog theG zoz:=.cons ⟨by kernel_rfl,zlk⟩ (.nil)
theorem zBr:FnOK Tryd.prog theG 86 (unW zlg):=by
  refine FnOK.ofC (T:=zoz) (nt:=9) (np:=0) (mv:=[]) (nf:=false) (hs:=zmq) (fn:=Tryd.f86) (body:=zou) zzl (by kernel_rfl) (by kernel_rfl) (by kernel_rfl) (by kernel_rfl) (c:=zlg) (lv:=zmL) ?_
  intro xs mem p out h hp
  unfold zlg at h
  split at h
  · cases h
    exact zD9 _ _ rfl
  · cases h
end
end Go.Proofs.YtnolgfdjcipmmaaDoor.M
namespace Go.Proofs.YtnolgfdjcipmmaaDoor.M
open Go
noncomputable section
set_option maxRecDepth 100000
set_option maxHeartbeats 0
noncomputable def zmt:Tbl:=[(86,[],zlg)]
noncomputable def zaj:CfgW:=mkC Tryd.prog theG zmt 188 0 false
def zaF:Nat→List Nat:=fun i=>bif Nat.beq i 6 then [2,4,175,176]else bif Nat.beq i 4 then [2,4,5,11,12,13,14,15,16,17,18,104]else bif Nat.beq i 2 then [2,3,4,5,6,24,34,35,36]else bif Nat.beq i 0 then [2,3,4,5,24]else []
noncomputable abbrev zaK:Code:=Tryd.f76.body.getD .skip
noncomputable abbrev zaP:List ResultVar:=Tryd.f76.results.toList
def zaG:List Nat:=[]
def zb8 (r:Vector UInt32 8):CallOut:=⟨.pv (.arr .u32 8 r),[],true,[]⟩
def zeV (t24:Int) (s:Vector UInt32 8) (b:Vector UInt8 64) (t4:Vector UInt32 8) (w:Vector UInt32 64):St:=⟨[(2,.p 60000 []),(3,.p 60001 []),(4,.p 60002 []),(5,.p 60003 []),(24,.pv (.sc .i t24))],[(60000,.box (.pv (.arr .u32 8 s))),(60001,.box (.pv (.arr .u8 64 b))),(60002,.box (.pv (.arr .u32 8 t4))),(60003,.box (.pv (.arr .u32 64 w)))]⟩
def zgn (i:Int) (t24:Int) (t34:Nat) (t341:Nat) (t342:Nat) (t35:Int) (t36:Int) (s:Vector UInt32 8) (b:Vector UInt8 64) (t4:Vector UInt32 8) (w:Vector UInt32 64):St:=⟨[(2,.p 60000 []),(3,.p 60001 []),(4,.p 60002 []),(5,.p 60003 []),(6,.pv (.sc .i i)),(24,.pv (.sc .i t24)),(34,.vw 60001 [] t34 t341 (some t342)),(35,.pv (.sc .i t35)),(36,.pv (.sc .i t36))],[(60000,.box (.pv (.arr .u32 8 s))),(60001,.box (.pv (.arr .u8 64 b))),(60002,.box (.pv (.arr .u32 8 t4))),(60003,.box (.pv (.arr .u32 64 w)))]⟩
def zgF (a:UInt32) (bb:UInt32) (c:UInt32) (d:UInt32) (e:UInt32) (f:UInt32) (g:UInt32) (h_:UInt32) (t104:Int) (s:Vector UInt32 8) (t4:Vector UInt32 8) (w:Vector UInt32 64):St:=⟨[(2,.p 60000 []),(4,.p 60001 []),(5,.p 60002 []),(11,.pv (.sc .u32 a)),(12,.pv (.sc .u32 bb)),(13,.pv (.sc .u32 c)),(14,.pv (.sc .u32 d)),(15,.pv (.sc .u32 e)),(16,.pv (.sc .u32 f)),(17,.pv (.sc .u32 g)),(18,.pv (.sc .u32 h_)),(104,.pv (.sc .i t104))],[(60000,.box (.pv (.arr .u32 8 s))),(60001,.box (.pv (.arr .u32 8 t4))),(60002,.box (.pv (.arr .u32 64 w)))]⟩
def zgo (t175:Vector UInt32 8) (t176:Int) (s:Vector UInt32 8) (t4:Vector UInt32 8):St:=⟨[(2,.p 60000 []),(4,.p 60001 []),(175,.pv (.arr .u32 8 t175)),(176,.pv (.sc .i t176))],[(60000,.box (.pv (.arr .u32 8 s))),(60001,.box (.pv (.arr .u32 8 t4)))]⟩
theorem zzI (t24:Int) (s:Vector UInt32 8) (b:Vector UInt8 64) (t4:Vector UInt32 8) (w:Vector UInt32 64) (Q:CallOut→Prop):zaB zaj zaF [true,true,false,true,false] zaK (zeV t24 s b t4 w) (fnK zaj zaP zaG Q) =
  (let s0:=(List.getD (Vector.toList w) (Int.toNat (w64 (t24 - (15:Int)))) (0:UInt32));let s1:=(List.getD (Vector.toList w) (Int.toNat (w64 (t24 - (2:Int)))) (0:UInt32));(zal (decide (t24 < (64:Int))) (zal (decide (t24 < (16:Int))) ((((0:Int)≤(w64 ((4:Int)*t24)))∧(((w64 ((4:Int)*t24))≤(w64 ((w64 ((4:Int)*t24))+(4:Int))))∧((w64 ((w64 ((4:Int)*t24))+(4:Int)))≤(((64:Nat):Nat):Int))))∧(zat zaj zaF [true,true,false,true,false,false,true,true,false,false,true,false,true,false,false,true,false] zaK (zgn t24 t24 (Int.toNat (w64 ((4:Int)*t24))) ((Int.toNat (w64 ((w64 ((4:Int)*t24))+(4:Int)))) - (Int.toNat (w64 ((4:Int)*t24)))) ((64:Nat) - (Int.toNat (w64 ((4:Int)*t24)))) ((((Int.toNat (w64 ((w64 ((4:Int)*t24))+(4:Int)))) - (Int.toNat (w64 ((4:Int)*t24)))):Nat):Int) (0:Int) s b t4 w) (fnK zaj zaP zaG Q))) ((((0:Int)≤(w64 (t24 - (15:Int))))∧((w64 (t24 - (15:Int))) < (64:Int)))∧((((0:Int)≤(w64 (t24 - (2:Int))))∧((w64 (t24 - (2:Int))) < (64:Int)))∧((((0:Int)≤(w64 (t24 - (16:Int))))∧((w64 (t24 - (16:Int))) < (64:Int)))∧((((0:Int)≤(w64 (t24 - (7:Int))))∧((w64 (t24 - (7:Int))) < (64:Int)))∧((((0:Int)≤t24)∧(t24 < (64:Int)))∧(zat zaj zaF [true,true,false,true,false] zaK (zeV (w64 (t24+(1:Int))) s b t4 (Vector.setIfInBounds w (Int.toNat t24) ((((List.getD (Vector.toList w) (Int.toNat (w64 (t24 - (16:Int)))) (0:UInt32))+(List.getD (Vector.toList w) (Int.toNat (w64 (t24 - (7:Int)))) (0:UInt32)))+(((sha_turn  s0  (7:Int)) ^^^ (sha_turn  s0  (18:Int))) ^^^ (zaE  s0  (3:Nat))))+(((sha_turn  s1  (17:Int)) ^^^ (sha_turn  s1  (19:Int))) ^^^ (zaE  s1  (10:Nat)))))) (fnK zaj zaP zaG Q)))))))) ((((0:Int)≤(0:Int))∧((0:Int) < (8:Int)))∧((((0:Int)≤(1:Int))∧((1:Int) < (8:Int)))∧((((0:Int)≤(2:Int))∧((2:Int) < (8:Int)))∧((((0:Int)≤(3:Int))∧((3:Int) < (8:Int)))∧((((0:Int)≤(4:Int))∧((4:Int) < (8:Int)))∧((((0:Int)≤(5:Int))∧((5:Int) < (8:Int)))∧((((0:Int)≤(6:Int))∧((6:Int) < (8:Int)))∧((((0:Int)≤(7:Int))∧((7:Int) < (8:Int)))∧(zat zaj zaF [true,true,true,true,false,true,false] zaK (zgF (List.getD (Vector.toList s) (0:Nat) (0:UInt32)) (List.getD (Vector.toList s) (1:Nat) (0:UInt32)) (List.getD (Vector.toList s) (2:Nat) (0:UInt32)) (List.getD (Vector.toList s) (3:Nat) (0:UInt32)) (List.getD (Vector.toList s) (4:Nat) (0:UInt32)) (List.getD (Vector.toList s) (5:Nat) (0:UInt32)) (List.getD (Vector.toList s) (6:Nat) (0:UInt32)) (List.getD (Vector.toList s) (7:Nat) (0:UInt32)) (0:Int) s t4 w) (fnK zaj zaP zaG Q)))))))))))):=by kernel_rfl
theorem zza (i:Int) (t24:Int) (t34:Nat) (t341:Nat) (t342:Nat) (t35:Int) (t36:Int) (s:Vector UInt32 8) (b:Vector UInt8 64) (t4:Vector UInt32 8) (w:Vector UInt32 64) (Q:CallOut→Prop):zaB zaj zaF [true,true,false,true,false,false,true,true,false,false,true,false,true,false,false,true,false] zaK (zgn i t24 t34 t341 t342 t35 t36 s b t4 w) (fnK zaj zaP zaG Q) =
    (zal (decide (t36 < t35)) ((((0:Int)≤t36)∧(t36 < ((t341:Nat):Int)))∧((((0:Int)≤i)∧(i < (64:Int)))∧((((0:Int)≤i)∧(i < (64:Int)))∧(zat zaj zaF [true,true,false,true,false,false,true,true,false,false,true,false,true,false,false,true,false] zaK (zgn i t24 t34 t341 t342 t35 (w64 (t36+(1:Int))) s b t4 (Vector.setIfInBounds w (Int.toNat i) ((zbA (List.getD (Vector.toList w) (Int.toNat i) (0:UInt32)) (8:Nat)) ||| (UInt8.toUInt32 (List.getD (Vector.toList b) (t34+(Int.toNat t36)) (0:UInt8)))))) (fnK zaj zaP zaG Q))))) (zat zaj zaF [true,true,false,true,false] zaK (zeV (w64 (t24+(1:Int))) s b t4 w) (fnK zaj zaP zaG Q))):=by kernel_rfl
theorem zzb (a:UInt32) (bb:UInt32) (c:UInt32) (d:UInt32) (e:UInt32) (f:UInt32) (g:UInt32) (h_:UInt32) (t104:Int) (s:Vector UInt32 8) (t4:Vector UInt32 8) (w:Vector UInt32 64) (Q:CallOut→Prop):zaB zaj zaF [true,true,true,true,false,true,false] zaK (zgF a bb c d e f g h_ t104 s t4 w) (fnK zaj zaP zaG Q) =
  (let s0:=((((h_+(((sha_turn e (6:Int)) ^^^ (sha_turn e (11:Int))) ^^^ (sha_turn e (25:Int))))+((e &&& f) ^^^ ((~~~e) &&& g)))+(List.getD (Vector.toList shaK) (Int.toNat t104) (0:UInt32)))+(List.getD (Vector.toList w) (Int.toNat t104) (0:UInt32)));(zal (decide (t104 < (64:Int))) ((((0:Int)≤t104)∧(t104 < (64:Int)))∧((((0:Int)≤t104)∧(t104 < (64:Int)))∧(zat zaj zaF [true,true,true,true,false,true,false] zaK (zgF ( s0 +((((sha_turn a (2:Int)) ^^^ (sha_turn a (13:Int))) ^^^ (sha_turn a (22:Int)))+(((a &&& bb) ^^^ (a &&& c)) ^^^ (bb &&& c)))) a bb c (d+ s0 ) e f g (w64 (t104+(1:Int))) s t4 w) (fnK zaj zaP zaG Q)))) (zat zaj zaF [true,true,true,true,true,false,true,false] zaK (zgo (Vector.setIfInBounds (Vector.setIfInBounds (Vector.setIfInBounds (Vector.setIfInBounds (Vector.setIfInBounds (Vector.setIfInBounds (Vector.setIfInBounds (Vector.setIfInBounds (Vector.replicate 8 (0:UInt32)) (0:Nat) a) (1:Nat) bb) (2:Nat) c) (3:Nat) d) (4:Nat) e) (5:Nat) f) (6:Nat) g) (7:Nat) h_) (0:Int) s t4) (fnK zaj zaP zaG Q)))):=by kernel_rfl
theorem zyK (t175:Vector UInt32 8) (t176:Int) (s:Vector UInt32 8) (t4:Vector UInt32 8) (Q:CallOut→Prop):zaB zaj zaF [true,true,true,true,true,false,true,false] zaK (zgo t175 t176 s t4) (fnK zaj zaP zaG Q) =
    (zal (decide (t176 < (8:Int))) ((((0:Int)≤t176)∧(t176 < (8:Int)))∧((((0:Int)≤t176)∧(t176 < (8:Int)))∧((((0:Int)≤t176)∧(t176 < (8:Int)))∧(zat zaj zaF [true,true,true,true,true,false,true,false] zaK (zgo t175 (w64 (t176+(1:Int))) (Vector.setIfInBounds s (Int.toNat t176) ((List.getD (Vector.toList s) (Int.toNat t176) (0:UInt32))+(List.getD (Vector.toList t175) (Int.toNat t176) (0:UInt32)))) t4) (fnK zaj zaP zaG Q))))) (Q (zb8 s))):=by kernel_rfl
theorem zpC {r:Vector UInt32 8} {Q:CallOut→Prop} (hQ:Q (zb8 r)):∀ k:Nat,(∀ (t175:Vector UInt32 8) (t176:Int) (s:Vector UInt32 8) (t4:Vector UInt32 8),sha_Round_h6 k t175 t176 s t4=some r→zat zaj zaF [true,true,true,true,true,false,true,false] zaK (zgo t175 t176 s t4) (fnK zaj zaP zaG Q))
  | 0=>fun _ _ _ _ h=>zcN h
  | k+1=>fun t175 t176 s t4 h=>zau (Eq.mpr (zyK t175 t176 s t4 Q) (have h:=(sha_Round_h6.eq_2 t175 t176 s t4 k).symm.trans h; zae h (fun h=>zad h fun hc0 h=>⟨hc0,⟨hc0,(zpC hQ k) _ _ _ _ h⟩⟩) (fun h=>zam (Q:=Q) (e:=zb8) h hQ)))
theorem zpm {r:Vector UInt32 8} {Q:CallOut→Prop} (hQ:Q (zb8 r)):∀ k:Nat,(∀ (a:UInt32) (bb:UInt32) (c:UInt32) (d:UInt32) (e:UInt32) (f:UInt32) (g:UInt32) (h_:UInt32) (t104:Int) (s:Vector UInt32 8) (t4:Vector UInt32 8) (w:Vector UInt32 64),sha_Round_h4 k a bb c d e f g h_ t104 s t4 w=some r→zat zaj zaF [true,true,true,true,false,true,false] zaK (zgF a bb c d e f g h_ t104 s t4 w) (fnK zaj zaP zaG Q))
  | 0=>fun _ _ _ _ _ _ _ _ _ _ _ _ h=>zcN h
  | k+1=>fun a bb c d e f g h_ t104 s t4 w h=>zau (Eq.mpr (zzb a bb c d e f g h_ t104 s t4 w Q) (have h:=(sha_Round_h4.eq_2 a bb c d e f g h_ t104 s t4 w k).symm.trans h; zae h (fun h=>zad h fun hc0 h=>⟨hc0,(zpm hQ k) _ _ _ _ _ _ _ _ _ _ _ _ h⟩) (fun h=>(zpC hQ _) _ _ _ _ h)))
theorem zeS {r:Vector UInt32 8} {Q:CallOut→Prop} (hQ:Q (zb8 r)):∀ k:Nat,(∀ (t24:Int) (s:Vector UInt32 8) (b:Vector UInt8 64) (t4:Vector UInt32 8) (w:Vector UInt32 64),sha_Round_h0 k t24 s b t4 w=some r→zat zaj zaF [true,true,false,true,false] zaK (zeV t24 s b t4 w) (fnK zaj zaP zaG Q))∧(∀ (i:Int) (t24:Int) (t34:Nat) (t341:Nat) (t342:Nat) (t35:Int) (t36:Int) (s:Vector UInt32 8) (b:Vector UInt8 64) (t4:Vector UInt32 8) (w:Vector UInt32 64),sha_Round_h2 k i t24 t34 t341 t342 t35 t36 s b t4 w=some r→zat zaj zaF [true,true,false,true,false,false,true,true,false,false,true,false,true,false,false,true,false] zaK (zgn i t24 t34 t341 t342 t35 t36 s b t4 w) (fnK zaj zaP zaG Q))
  | 0=>⟨fun _ _ _ _ _ h=>zcN h,fun _ _ _ _ _ _ _ _ _ _ _ h=>zcN h⟩
  | k+1=>⟨fun t24 s b t4 w h=>zau (Eq.mpr (zzI t24 s b t4 w Q) (have h:=(sha_Round_h0.eq_2 t24 s b t4 w k).symm.trans h; zae h (fun h=>zae h (fun h=>zad h fun hc0 h=>(zeS hQ k).2 _ _ _ _ _ _ _ _ _ _ _ h) (fun h=>zad h fun hc0 h=>zad h fun hc1 h=>zad h fun hc2 h=>zad h fun hc3 h=>zad h fun hc4 h=>(zeS hQ k).1 _ _ _ _ _ h)) (fun h=>⟨by decide +kernel,⟨by decide +kernel,⟨by decide +kernel,⟨by decide +kernel,⟨by decide +kernel,⟨by decide +kernel,⟨by decide +kernel,⟨by decide +kernel,(zpm hQ _) _ _ _ _ _ _ _ _ _ _ _ _ h⟩⟩⟩⟩⟩⟩⟩⟩))),
    fun i t24 t34 t341 t342 t35 t36 s b t4 w h=>zau (Eq.mpr (zza i t24 t34 t341 t342 t35 t36 s b t4 w Q) (have h:=(sha_Round_h2.eq_2 i t24 t34 t341 t342 t35 t36 s b t4 w k).symm.trans h; zae h (fun h=>zad h fun hc0 h=>zad h fun hc1 h=>⟨hc1,(zeS hQ k).2 _ _ _ _ _ _ _ _ _ _ _ h⟩) (fun h=>(zeS hQ k).1 _ _ _ _ _ h)))⟩
theorem zAu (s:Vector UInt32 8) (b:Vector UInt8 64) (Q:CallOut→Prop):zab zaj zaF zaP zaG zaK [.pv (.arr .u32 8 s),.pv (.arr .u8 64 b)] [] Q =
    (zat zaj zaF [true,true,false,true,false] zaK (zeV (0:Int) s b (Vector.replicate 8 (0:UInt32)) (Vector.replicate 64 (0:UInt32))) (fnK zaj zaP zaG Q)):=by kernel_rfl
theorem zAe {k:Nat} (s:Vector UInt32 8) (b:Vector UInt8 64) {r} {Q:CallOut→Prop} (h:sha_Round k s b=some r) (hQ:Q (zb8 r)):zab zaj zaF zaP zaG zaK [.pv (.arr .u32 8 s),.pv (.arr .u8 64 b)] [] Q :=
  Eq.mpr (zAu s b Q) (have h:=(sha_Round.eq_1 k s b).symm.trans h; (zeS hQ _).1 _ _ _ _ _ h)
def zil:Ans
  | [.pv (.arr .u32 8 s),.pv (.arr .u8 64 b)],[]=>some (none,zb8 (zc3 shaK s (fun i=>List.getD (Vector.toList b) i 0)))
  | _,_=>none
theorem zwJ:TblOK Tryd.prog theG zmt:=.cons ⟨by kernel_rfl,zBr⟩ (.nil)
theorem zxP:FnOK Tryd.prog theG 76 (unW zil):=by
  refine FnOK.ofC (T:=zmt) (nt:=188) (np:=0) (mv:=[]) (nf:=false) (hs:=zaG) (fn:=Tryd.f76) (body:=zaK) zwJ (by kernel_rfl) (by kernel_rfl) (by kernel_rfl) (by kernel_rfl) (c:=zil) (lv:=zaF) ?_
  intro xs mem p out h hp
  unfold zil at h
  split at h
  · cases h
    obtain ⟨k,hk⟩:=ztH _ _
    exact zAe _ _ hk rfl
  · cases h
end
end Go.Proofs.YtnolgfdjcipmmaaDoor.M
namespace Go.Proofs.YtnolgfdjcipmmaaDoor.M
open Go
noncomputable section
set_option maxRecDepth 100000
set_option maxHeartbeats 0
noncomputable def zq6:Tbl:=[(74,[],zjh),(75,[],zgs),(76,[],zil),(77,[],zhF)]
noncomputable def zbh:CfgW:=mkC Tryd.prog theG zq6 41 0 false
def zb0:Nat→List Nat:=fun i=>bif Nat.beq i 2 then [2,6,27,28]else bif Nat.beq i 0 then [2,3,4,5]else []
noncomputable abbrev zcC:Code:=Tryd.f60.body.getD .skip
noncomputable abbrev zcW:List ResultVar:=Tryd.f60.results.toList
def zb3:List Nat:=[]
def zed (r:Vector UInt8 32):CallOut:=⟨.pv (.arr .u8 32 r),[],true,[]⟩
def zkZ (i:Int) (t2:Vector UInt8 32) (s:Vector UInt32 8) (p:List UInt8):St:=⟨[(2,.p 60000 []),(3,.p 60001 []),(4,.o 60002),(5,.pv (.sc .i i))],[(60000,.box (.pv (.arr .u8 32 t2))),(60001,.box (.pv (.arr .u32 8 s))),(60002,.row (.s .u8 p) false)]⟩
def zld (t27:Vector UInt32 8) (t28:Int) (t2:Vector UInt8 32) (out:Vector UInt8 32):St:=⟨[(2,.p 60000 []),(6,.p 60001 []),(27,.pv (.arr .u32 8 t27)),(28,.pv (.sc .i t28))],[(60000,.box (.pv (.arr .u8 32 t2))),(60001,.box (.pv (.arr .u8 32 out)))]⟩
theorem zDj (i:Int) (t2:Vector UInt8 32) (s:Vector UInt32 8) (p:List UInt8) (Q:CallOut→Prop):zaB zbh zb0 [true,true,true,false,true,false] zcC (zkZ i t2 s p) (fnK zbh zcW zb3 Q) =
    (zal (decide (i < (((List.length p):Nat):Int))) ((((0:Int)≤i)∧((i≤(w64 (i+(64:Int))))∧((w64 (i+(64:Int)))≤(((List.length p):Nat):Int))))∧((((64:Nat)≤((Int.toNat (w64 (i+(64:Int)))) - (Int.toNat i)))∧((0:Nat) < (64:Nat)))∧(zat zbh zb0 [true,true,true,false,true,false] zcC (zkZ (w64 (i+(64:Int))) t2 (zc3 shaK s (fun(z5:Nat)=>(List.getD (Vector.toList (Vector.ofFn (fun(z6:Fin 64)=>(List.getD p ((Int.toNat i)+(Fin.val z6)) (0:UInt8))))) z5 (0:UInt8)))) p) (fnK zbh zcW zb3 Q)))) (zat zbh zb0 [true,true,true,true,true,false,true,false] zcC (zld s (0:Int) t2 (Vector.replicate 32 (0:UInt8))) (fnK zbh zcW zb3 Q))):=by kernel_rfl
theorem zDe (t27:Vector UInt32 8) (t28:Int) (t2:Vector UInt8 32) (out:Vector UInt8 32) (Q:CallOut→Prop):zaB zbh zb0 [true,true,true,true,true,false,true,false] zcC (zld t27 t28 t2 out) (fnK zbh zcW zb3 Q) =
  (let s0:=(zbX (UInt32.toUInt64 (List.getD (Vector.toList t27) (Int.toNat t28) (0:UInt32))) (4:Nat));(zal (decide (t28 < (8:Int))) ((((0:Int)≤t28)∧(t28 < (8:Int)))∧((((0:Int)≤(w64 ((4:Int)*t28)))∧(((w64 ((4:Int)*t28))≤(32:Int))∧((32:Int)≤(((32:Nat):Nat):Int))))∧((((0:Int)≤(4:Int))∧((4:Int)≤(64:Int)))∧(zat zbh zb0 [true,true,true,true,true,false,true,false] zcC (zld t27 (w64 (t28+(1:Int))) t2 (Vector.ofFn (fun(z5:Fin 32)=>(List.getD (zcy (Int.toNat (w64 ((4:Int)*t28))) (Min.min (List.length  s0 ) ((Int.toNat (32:Int)) - (Int.toNat (w64 ((4:Int)*t28))))) (Vector.toList out)  s0 ) ((0:Nat)+(Fin.val z5)) (0:UInt8))))) (fnK zbh zcW zb3 Q))))) (Q (zed out)))):=by kernel_rfl
theorem zuf {r:Vector UInt8 32} {Q:CallOut→Prop} (hQ:Q (zed r)):∀ k:Nat,(∀ (t27:Vector UInt32 8) (t28:Int) (t2:Vector UInt8 32) (out:Vector UInt8 32),sha_Sum_h2 k t27 t28 t2 out=some r→zat zbh zb0 [true,true,true,true,true,false,true,false] zcC (zld t27 t28 t2 out) (fnK zbh zcW zb3 Q))
  | 0=>fun _ _ _ _ h=>zcN h
  | k+1=>fun t27 t28 t2 out h=>zau (Eq.mpr (zDe t27 t28 t2 out Q) (have h:=(sha_Sum_h2.eq_2 t27 t28 t2 out k).symm.trans h; zae h (fun h=>zad h fun hc0 h=>zad h fun hc1 h=>⟨by decide +kernel,(zuf hQ k) _ _ _ _ h⟩) (fun h=>zam (Q:=Q) (e:=zed) h hQ)))
theorem ztY {r:Vector UInt8 32} {Q:CallOut→Prop} (hQ:Q (zed r)):∀ k:Nat,(∀ (i:Int) (t2:Vector UInt8 32) (s:Vector UInt32 8) (p:List UInt8),sha_Sum_h0 k i t2 s p=some r→zat zbh zb0 [true,true,true,false,true,false] zcC (zkZ i t2 s p) (fnK zbh zcW zb3 Q))
  | 0=>fun _ _ _ _ h=>zcN h
  | k+1=>fun i t2 s p h=>zau (Eq.mpr (zDj i t2 s p Q) (have h:=(sha_Sum_h0.eq_2 i t2 s p k).symm.trans h; zae h (fun h=>zad h fun hc0 h=>zad h fun hc1 h=>(ztY hQ k) _ _ _ _ h) (fun h=>(zuf hQ _) _ _ _ _ h)))
theorem zFS (b:List UInt8) (Q:CallOut→Prop):zab zbh zb0 zcW zb3 zcC [.pv (.sl .u8 b)] [] Q =
    (((List.length b)≤(1099511627776:Nat))∧(zat zbh zb0 [true,true,true,false,true,false] zcC (zkZ (0:Int) (Vector.replicate 32 (0:UInt8)) sha_Begin (zbD b)) (fnK zbh zcW zb3 Q))):=by kernel_rfl
theorem zEY {k:Nat} (b:List UInt8) {r} {Q:CallOut→Prop} (h:sha_Sum k b=some r) (hQ:Q (zed r)):zab zbh zb0 zcW zb3 zcC [.pv (.sl .u8 b)] [] Q :=
  Eq.mpr (zFS b Q) (have h:=(sha_Sum.eq_1 k b).symm.trans h; zad h fun hc0 h=>(ztY hQ _) _ _ _ _ h)
def znd:Ans
  | [.pv (.sl .u8 b)],[]=>some (some (b.length≤1099511627776),zed (zaQ b))
  | _,_=>none
theorem zBm:TblOK Tryd.prog theG zq6:=.cons ⟨by kernel_rfl,zzL⟩ (.cons ⟨by kernel_rfl,zwi⟩ (.cons ⟨by kernel_rfl,zxP⟩ (.cons ⟨by kernel_rfl,zsk⟩ (.nil))))
theorem zEc:FnOK Tryd.prog theG 60 (unW znd):=by
  refine FnOK.ofC (T:=zq6) (nt:=41) (np:=0) (mv:=[]) (nf:=false) (hs:=zb3) (fn:=Tryd.f60) (body:=zcC) zBm (by kernel_rfl) (by kernel_rfl) (by kernel_rfl) (by kernel_rfl) (c:=znd) (lv:=zb0) ?_
  intro xs mem p out h hp
  unfold znd at h
  split at h
  · cases h
    obtain ⟨k,hk⟩:=zxY _ hp
    exact zEY _ hk rfl
  · cases h
end
end Go.Proofs.YtnolgfdjcipmmaaDoor.M
namespace Go.Proofs.YtnolgfdjcipmmaaDoor.M
open Go
noncomputable section
set_option maxRecDepth 100000
set_option maxHeartbeats 0
noncomputable def zmK:Tbl:=[(60,[],znd)]
noncomputable def zrt:CfgW:=mkC Tryd.prog theG zmK 8 0 false
def zjR:Nat→List Nat:=fun i=>[]
noncomputable abbrev zl3:Code:=Tryd.f42.body.getD .skip
noncomputable abbrev zrD:List ResultVar:=Tryd.f42.results.toList
def zjS:List Nat:=[]
def zft (r:Vector UInt8 32):CallOut:=⟨.pv (.arr .u8 32 r),[],true,[]⟩
theorem zBg (b:List UInt8) (Q:CallOut→Prop):zab zrt zjR zrD zjS zl3 [.pv (.sl .u8 b)] [] Q =
    (((List.length b)≤(1099511627776:Nat))∧((((0:Int)≤(0:Int))∧(((0:Int)≤(32:Int))∧((32:Int)≤(((32:Nat):Nat):Int))))∧(((List.length (List.take ((Int.toNat (32:Int)) - (Int.toNat (0:Int))) (List.drop (Int.toNat (0:Int)) (Vector.toList (zaQ b)))))≤(1099511627776:Nat))∧(Q (zft (zaQ (List.take ((Int.toNat (32:Int)) - (Int.toNat (0:Int))) (List.drop (Int.toNat (0:Int)) (Vector.toList (zaQ b)))))))))):=by kernel_rfl
theorem zBK (b:List UInt8) {r} {Q:CallOut→Prop} (h:sha_Twice b=some r) (hQ:Q (zft r)):zab zrt zjR zrD zjS zl3 [.pv (.sl .u8 b)] [] Q :=
  Eq.mpr (zBg b Q) (have h:=(sha_Twice.eq_1 b).symm.trans h; zad h fun hc0 h=>⟨by decide +kernel,zad h fun hc1 h=>zam (Q:=Q) (e:=zft) h hQ⟩)
def zjo:Ans
  | [.pv (.sl .u8 b)],[]=>some (some (b.length≤1099511627776),zft (zaQ (Vector.toList (zaQ b))))
  | _,_=>none
theorem zu9:TblOK Tryd.prog theG zmK:=.cons ⟨by kernel_rfl,zEc⟩ (.nil)
theorem zyG:FnOK Tryd.prog theG 42 (unW zjo):=by
  refine FnOK.ofC (T:=zmK) (nt:=8) (np:=0) (mv:=[]) (nf:=false) (hs:=zjS) (fn:=Tryd.f42) (body:=zl3) zu9 (by kernel_rfl) (by kernel_rfl) (by kernel_rfl) (by kernel_rfl) (c:=zjo) (lv:=zjR) ?_
  intro xs mem p out h hp
  unfold zjo at h
  split at h
  · cases h
    exact zBK _ (ztv _ hp) rfl
  · cases h
end
end Go.Proofs.YtnolgfdjcipmmaaDoor.M
