/- Part of the proofs: what functions of the program do: plain functions, and the walks that show it. No condition. -/
import Derived.KernelRfl
import Derived.Test.YtnolgfdjcipmmaaDoorLe
import Derived.Test.YtnolgfdjcipmmaaDoorSshaK
set_option linter.unusedVariables false
set_option linter.unusedSimpArgs false
set_option autoImplicit false
namespace Go.Proofs.YtnolgfdjcipmmaaDoor.M
open Go
def zFP (x:UInt32) (y:UInt8):UInt32:=zcb x 8 ||| y.toUInt32
def shT (x:UInt32) (n:Nat):UInt32:=zaP x n ||| zcb x (32 - n)
def zwn (w:Vector UInt32 64) (i:Nat):UInt32 :=
 List.getD (Vector.toList w) (i - 16) 0+List.getD (Vector.toList w) (i - 7) 0
  + (shT (List.getD (Vector.toList w) (i - 15) 0) 7 ^^^ shT (List.getD (Vector.toList w) (i - 15) 0) 18 ^^^ zaP (List.getD (Vector.toList w) (i - 15) 0) 3)
  + (shT (List.getD (Vector.toList w) (i - 2) 0) 17 ^^^ shT (List.getD (Vector.toList w) (i - 2) 0) 19 ^^^ zaP (List.getD (Vector.toList w) (i - 2) 0) 10)
def zl4 (b:Nat→UInt8) (i:Nat) (w:Vector UInt32 64):Vector UInt32 64 :=
 zbP (fun j w=>Vector.setIfInBounds w i (zFP (List.getD (Vector.toList w) i 0) (b (4*i+j)))) 0 4 w
def shW (b:Nat→UInt8):Vector UInt32 64 :=
 zbP (fun i w=>Vector.setIfInBounds w i (zwn w i)) 16 48 (zbP (zl4 b) 0 16 (Vector.replicate 64 0))
def shG (v:Vector UInt32 8) (j:Nat):UInt32:=List.getD (Vector.toList v) j 0
def shT1 (kt w:Vector UInt32 64) (i:Nat) (v:Vector UInt32 8):UInt32 :=
 shG v 7+(shT (shG v 4) 6 ^^^ shT (shG v 4) 11 ^^^ shT (shG v 4) 25)+(shG v 4 &&& shG v 5 ^^^ (~~~(shG v 4)) &&& shG v 6)+List.getD (Vector.toList kt) i 0+List.getD (Vector.toList w) i 0
def shU1 (v:Vector UInt32 8):UInt32 :=
 (shT (shG v 0) 2 ^^^ shT (shG v 0) 13 ^^^ shT (shG v 0) 22)+(shG v 0 &&& shG v 1 ^^^ shG v 0 &&& shG v 2 ^^^ shG v 1 &&& shG v 2)
def zsX (kt w:Vector UInt32 64) (i:Nat) (v:Vector UInt32 8):Vector UInt32 8 :=
 #v[shT1 kt w i v+shU1 v,shG v 0,shG v 1,shG v 2,shG v 3+shT1 kt w i v,shG v 4,shG v 5,shG v 6]
def zqj (s v:Vector UInt32 8):Vector UInt32 8:=Vector.ofFn fun i=>shG s i+shG v i
def zh7 (kt:Vector UInt32 64) (s:Vector UInt32 8) (b:Nat→UInt8):Vector UInt32 8:=zqj s (zbP (zsX kt (shW b)) 0 64 s)
noncomputable def zem (kt:Vector UInt32 64) (s:Vector UInt32 8) (b:Nat→UInt8):Vector UInt32 8:=lock (zh7 kt s b)
theorem zg0 (kt:Vector UInt32 64) (s:Vector UInt32 8) (b:Nat→UInt8):zem kt s b=zh7 kt s b:=za7 _
theorem zx0 (f:Fin 8→UInt32) (j:Nat) (h:j < 8):shG (Vector.ofFn f) j=f ⟨j,h⟩:=by
 simp[shG,List.getD,h]
theorem zsM (s v:Vector UInt32 8):zbP (fun i (a:Vector UInt32 8)=>Vector.setIfInBounds a i (List.getD (Vector.toList a) i 0+List.getD (Vector.toList v) i 0)) 0 8 s=zqj s v:=by
 have gen:∀ m,m≤8→∀ j,List.getD (Vector.toList (zbP (fun i (a:Vector UInt32 8)=>Vector.setIfInBounds a i (List.getD (Vector.toList a) i 0+List.getD (Vector.toList v) i 0)) 0 m s)) j 0
   = if j < m then shG s j+shG v j else shG s j:=by
  intro m
  induction m with
  | zero=>intro _ j; simp[zbP,shG]
  | succ m ih =>
   intro hm j
   rw[zc7,Nat.zero_add,zax _ _ _ _ _ (by omega),ih (by omega) m,ih (by omega) j]
   by_cases h:m=j
   ·subst h; simp[shG]
   ·rw[if_neg h]
    by_cases h2:j < m
    ·rw[if_pos h2,if_pos (by omega)]
    ·rw[if_neg h2,if_neg (by omega)]
 refine vext 0 fun j hj=>?_
 rw[gen 8 (Nat.le_refl _) j,if_pos hj]
 exact (zx0 (fun i=>shG s i+shG v i) j hj).symm
end Go.Proofs.YtnolgfdjcipmmaaDoor.M
namespace Go.Proofs.YtnolgfdjcipmmaaDoor.M
open Go
def zcW (n:UInt64) (many:Nat):List UInt8:=(List.range many).map fun i=>(zaa n (8*(many - 1 - i))).toUInt8
def zca (n:Nat):Nat:=(56+64 - (n+1) % 64) % 64
def zcg (b:List UInt8):List UInt8:=b++[128]++List.replicate (zca b.length) 0++zcW (zaq (UInt64.ofInt (b.length:Int)) 3) 8
theorem zhn (n:UInt64) (many:Nat):(zcW n many).length=many:=by simp[zcW]
theorem zvV (b:List UInt8):(zcg b).length % 64=0∧b.length+9≤(zcg b).length∧(zcg b).length≤b.length+73:=by
 simp only[zcg,List.length_append,zhn,List.length_replicate,List.length_cons,List.length_nil,zca]
 omega
end Go.Proofs.YtnolgfdjcipmmaaDoor.M
namespace Go.Proofs.YtnolgfdjcipmmaaDoor.M
open Go
def zcS:Vector UInt32 8:=#v[0x6a09e667,0xbb67ae85,0x3c6ef372,0xa54ff53a,0x510e527f,0x9b05688c,0x1f83d9ab,0x5be0cd19]
noncomputable def zjq (p:List UInt8):Nat→Vector UInt32 8
 | 0=>zcS
 | n+1=>zem shaK (zjq p n) (fun j=>p.getD (64*n+j) 0)
def zm5 (s:Vector UInt32 8) (i:Nat):UInt8:=(zaP (shG s (i / 4)) (24 - 8*(i % 4))).toUInt8
def zvB (s:Vector UInt32 8):Vector UInt8 32:=Vector.ofFn fun i:Fin 32=>zm5 s i.val
noncomputable def za4 (b:List UInt8):Vector UInt8 32:=lock (zvB (zjq (zcg b) ((zcg b).length / 64)))
theorem zf8 (b:List UInt8):za4 b=zvB (zjq (zcg b) ((zcg b).length / 64)):=za7 _
theorem zzs {b c:Nat→UInt8} (i:Nat) (w:Vector UInt32 64) (h:∀ j,j < 4→b (4*i+j)=c (4*i+j)):zl4 b i w=zl4 c i w:=by
 unfold zl4
 refine zkc 4 0 w fun j s _ hj=>?_
 rw[h j (by omega)]
theorem zHc {b c:Nat→UInt8} (h:∀ j,j < 64→b j=c j):shW b=shW c:=by
 unfold shW
 rw[zkc (f:=zl4 b) (g:=zl4 c) 16 0 _ fun i s _ hi=>zzs i s fun j hj=>h _ (by omega)]
theorem zl8 {kt:Vector UInt32 64} {s:Vector UInt32 8} {b c:Nat→UInt8} (h:∀ j,j < 64→b j=c j):zem kt s b=zem kt s c:=by
 rw[zg0,zg0]
 unfold zh7
 rw[zHc h]
theorem zD4 {α:Type} (off m j:Nat) (xs ys:List α) (h1:off+m≤xs.length) (h2:m≤ys.length):(zdO off m xs ys)[j]?=if off≤j∧j < off+m then ys[j - off]? else xs[j]?:=by
 unfold zdO
 by_cases h:j < off
 ·rw[if_neg (by omega),List.append_assoc,List.getElem?_append_left (by simp; omega),List.getElem?_take,if_pos h]
 ·by_cases h3:j < off+m
  ·rw[if_pos (by omega),List.append_assoc,List.getElem?_append_right (by simp; omega),List.getElem?_append_left (by simp; omega),List.getElem?_take,if_pos (by simp; omega)]
   have:j - (List.take off xs).length=j - off:=by simp; omega
   rw[this]
  ·rw[if_neg (by omega),List.getElem?_append_right (by simp; omega),List.getElem?_drop]
   have:off+m+(j - (List.take off xs++List.take m ys).length)=j:=by simp; omega
   rw[this]
theorem zFx {α:Type} (off m j:Nat) (xs ys:List α) (d:α) (h1:off+m≤xs.length) (h2:m≤ys.length):(zdO off m xs ys).getD j d=if off≤j∧j < off+m then ys.getD (j - off) d else xs.getD j d:=by
 simp only[List.getD,zD4 off m j xs ys h1 h2]
 split<;>rfl
theorem zGi (x:UInt32) (n:Nat) (hn:n < 32):(zaa x.toUInt64 n).toUInt8=(zaP x n).toUInt8:=by
 unfold zaa zaP
 apply UInt8.toNat_inj.1
 have h1:x.toNat < 2 ^ 32:=x.toNat_lt
 have h2:x.toNat / 2 ^ n≤x.toNat:=Nat.div_le_self _ _
 rw[show min n 64=n by omega,show min n 32=n by omega]
 simp only[UInt64.toNat_toUInt8,UInt32.toNat_toUInt8,UInt64.toNat_ofNat',UInt32.toNat_ofNat',UInt32.toNat_toUInt64]
 rw[Nat.mod_eq_of_lt (b:=2 ^ 64) (by omega),Nat.mod_eq_of_lt (b:=2 ^ 32) (by omega)]
theorem zBy (n:UInt64) (many j:Nat) (h:j < many):(zcW n many).getD j 0=(zaa n (8*(many - 1 - j))).toUInt8:=by
 simp[zcW,List.getD,h]
end Go.Proofs.YtnolgfdjcipmmaaDoor.M
