/- Part of the proofs: what functions of the program do: plain functions, and the walks that show it. No condition. -/
import Derived.KernelRfl
import Derived.Test.YtnolgfdjcipmmaaDoorLe
import Derived.Test.YtnolgfdjcipmmaaDoorSbigS
import Derived.Test.YtnolgfdjcipmmaaDoorSwords
import Derived.Test.YtnolgfdjcipmmaaDoorSshaS
set_option linter.unusedVariables false
set_option linter.unusedSimpArgs false
set_option autoImplicit false
namespace Go.Proofs.YtnolgfdjcipmmaaDoor.M
open Go
def ze4 (n:Int):Bool:=decide (n=1∨n=2∨n=4∨n=8)
theorem zrf {n:Int} (h:ze4 n=true):0≤n∧n≤8:=by
 unfold ze4 at h
 rw[decide_eq_true_eq]at h
 omega
def lowF (n i:Nat):UInt8:=UInt8.ofNat (n / 256 ^ i)
def lowY (n k:Nat):List UInt8:=(List.range k).map (lowF n)
theorem zfK (n k:Nat):(lowY n k).length=k:=by simp[lowY]
theorem zA4 (n k:Nat):lowY n (k+1)=lowY n k++[lowF n k]:=by
 unfold lowY
 rw[List.range_succ,List.map_append]
 rfl
theorem toU8 (x:Nat):UInt64.toUInt8 (UInt64.ofNat x)=UInt8.ofNat x:=by
 rw[←UInt8.toNat_inj]
 simp
theorem zJf (n:UInt64) (i:Nat) (h:i < 8):UInt64.toUInt8 (zaa n (8*i))=lowF n.toNat i:=by
 unfold zaa lowF
 rw[toU8,show min (8*i) 64=8*i by omega,Nat.pow_mul]
def putR (n:UInt64) (many:Int):Int:=if ze4 many=true∧n.toNat < 256 ^ many.toNat then 0 else 2
noncomputable def putL (n:UInt64) (many:Int):List UInt8:=lock (if ze4 many=true∧n.toNat < 256 ^ many.toNat then lowY n.toNat many.toNat else [])
theorem zCW (n:UInt64) (many:Int):putL n many=(if ze4 many=true∧n.toNat < 256 ^ many.toNat then lowY n.toNat many.toNat else []):=za7 _
theorem zx1 (n:UInt64) (k:Nat) (h:k < 8):((0:UInt64) < zaa n (8*k))↔256 ^ k≤n.toNat:=by
 unfold zaa
 have hn:=n.toNat_lt
 rw[UInt64.lt_iff_toNat_lt,UInt64.toNat_ofNat',show min (8*k) 64=8*k by omega,Nat.pow_mul]
 show 0 < n.toNat / 256 ^ k % 2 ^ 64↔_
 have hp:0 < 256 ^ k:=Nat.pow_pos (by decide)
 rw[Nat.mod_eq_of_lt (Nat.lt_of_le_of_lt (Nat.div_le_self _ _) hn),Nat.div_pos_iff]
 exact ⟨fun h=>h.2,fun h=>⟨hp,h⟩⟩
theorem ztJ (x:UInt64):(0:UInt64) < x↔x≠0:=by
 rw[UInt64.lt_iff_toNat_lt,ne_eq,←UInt64.toNat_inj]
 show 0 < x.toNat↔¬ x.toNat=0
 omega
noncomputable def zi7 (p r:Vector UInt8 32) (t b n:UInt32):List UInt8:=lock (Vector.toList p++Vector.toList r++lowY t.toNat 4++lowY b.toNat 4++lowY n.toNat 4)
theorem zlR (p r:Vector UInt8 32) (t b n:UInt32):zi7 p r t b n=Vector.toList p++Vector.toList r++lowY t.toNat 4++lowY b.toNat 4++lowY n.toNat 4:=za7 _
theorem zzC (p r:Vector UInt8 32) (t b n:UInt32):(zi7 p r t b n).length=76:=by rw[zlR]; simp[zfK]
theorem zwy (n:UInt32):putL (UInt32.toUInt64 n) 4=lowY n.toNat 4:=by
 have hn:=n.toNat_lt
 rw[zCW,UInt32.toNat_toUInt64,show (4:Int).toNat=4 from rfl,if_pos ⟨rfl,by omega⟩]
end Go.Proofs.YtnolgfdjcipmmaaDoor.M
namespace Go.Proofs.YtnolgfdjcipmmaaDoor.M
open Go
noncomputable def idV (p r:Vector UInt8 32) (t b n:UInt32):Vector UInt8 32:=lock (za4 (Vector.toList (za4 (zi7 p r t b n))))
theorem zyF (p r:Vector UInt8 32) (t b n:UInt32):idV p r t b n=za4 (Vector.toList (za4 (zi7 p r t b n))):=za7 _
end Go.Proofs.YtnolgfdjcipmmaaDoor.M
