/- Part of the proofs: what functions of the program do: plain functions, and the walks that show it. No condition. -/
import Derived.KernelRfl
import Derived.Test.YtnolgfdjcipmmaaDoorLe
set_option linter.unusedVariables false
set_option linter.unusedSimpArgs false
set_option autoImplicit false
namespace Go.Proofs.YtnolgfdjcipmmaaDoor.M
open Go
section
variable {α:Type}
theorem zlS (f:Nat→α) (l:List α):∀ n,zbP (fun i l=>l++[f i]) 0 n l=l++(List.range n).map f
 | 0=>by simp[zbP]
 | n+1=>by rw[zc7,Nat.zero_add,zlS f l n,List.range_succ]; simp
theorem zEi {n:Nat} (v:Vector α n) (d:α):(List.range n).map (fun i=>List.getD (Vector.toList v) i d)=Vector.toList v:=by
 apply List.ext_getElem
 ·simp
 ·intro i h1 h2
  have:i < n:=by simpa using h2
  simp[List.getD,this]
theorem zte {n:Nat} (f:Nat→α) (v:Vector α n) (d:α):∀ m,m≤n→∀ j,(zbP (fun i (v:Vector α n)=>Vector.setIfInBounds v i (f i)) 0 m v).toList.getD j d=if j < m then f j else v.toList.getD j d
 | 0,_,j=>by rw[if_neg (by omega)]; rfl
 | m+1,hm,j=>by
  rw[zc7,Nat.zero_add,zax _ _ _ _ _ (by omega),zte f v d m (by omega)]
  by_cases h:m=j
  ·rw[if_pos h,if_pos (by omega),h]
  ·rw[if_neg h]
   by_cases h2:j < m
   ·rw[if_pos h2,if_pos (by omega)]
   ·rw[if_neg h2,if_neg (by omega)]
theorem znz {n:Nat} (f:Nat→α) (v:Vector α n):zbP (fun i (v:Vector α n)=>Vector.setIfInBounds v i (f i)) 0 n v=Vector.ofFn fun i:Fin n=>f i.val:=by
 cases n with
 | zero=>exact Vector.ext (fun i h=>by omega)
 | succ n =>
  refine vext (f 0) fun j hj=>?_
  rw[zte f v (f 0) (n+1) (Nat.le_refl _) j,if_pos hj]
  simp[List.getD,hj]
theorem zkJ {n:Nat} (f:Fin n→α) (j:Nat) (d:α) (h:j < n):(Vector.ofFn f).toList.getD j d=f ⟨j,h⟩:=by
 simp[List.getD,h]
end
theorem Ev.upI {R σ:Type} {H:Nat→Int→σ→Option R} {lo n:Nat} {step:Nat→σ→σ} {r:R} (Inv:Nat→σ→Prop) (hI:∀ i s,lo≤i→i < n→Inv i s→Inv (i+1) (step i s))
  (hs:∀ (i:Nat) (s:σ),lo≤i→i < n→Inv i s→Ev (fun k=>H k ((i:Int)+1) (step i s)) r→Ev (fun k=>H k (i:Int) s) r):∀ (m i:Nat) (s:σ),lo≤i→i+m=n→Inv i s →
  Ev (fun k=>H k (n:Int) (zbP step i m s)) r→Ev (fun k=>H k (i:Int) s) r
 | 0,i,s,_,hi,_,e=>by
  obtain rfl:i=n:=by omega
  exact e
 | m+1,i,s,hl,hi,hv,e=>by
  refine hs i s hl (by omega) hv ?_
  have:=Ev.upI Inv hI hs m (i+1) (step i s) (by omega) (by omega) (hI i s hl (by omega) hv) e
  simpa using this
theorem zIh {α:Type} (l:List α) (n:Nat) (h:l.length≤n):List.take ((Int.toNat ((n:Nat):Int)) - Int.toNat (0:Int)) (List.drop (Int.toNat (0:Int)) l)=l:=by
 simp[List.take_of_length_le h]
theorem zID (v:Vector UInt8 32):List.take ((Int.toNat (32:Int)) - Int.toNat (0:Int)) (List.drop (Int.toNat (0:Int)) (Vector.toList v))=Vector.toList v:=zIh _ 32 (by simp)
theorem zto {c:Nat} (h:c < 18446744073709551616):(UInt64.ofInt ((c:Nat):Int)).toNat=c:=by
 rw[show UInt64.ofInt ((c:Nat):Int)=UInt64.ofNat (((c:Nat):Int) % 2 ^ 64).toNat from rfl,UInt64.toNat_ofNat']
 omega
end Go.Proofs.YtnolgfdjcipmmaaDoor.M
