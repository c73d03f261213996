/- Part of the proofs: a reckoning of code on values by names, shown sound against the model. No condition. -/
import Derived.Orders
import Derived.Below
import Derived.Laws.Bits
import Derived.IntWalk
import Derived.Laws.CopyRow
import Derived.ChangeKeysEq
import Derived.Laws.Tables
set_option linter.unusedVariables false
set_option linter.unusedSimpArgs false
set_option autoImplicit false
namespace Go.Proofs.YtnolgfdjcipmmaaDoor.M
open Go
inductive EK where
 | u8 | u16 | u32 | u64 | i | b
 deriving DecidableEq
@[reducible] def EK.T:EK→Type
 | .u8=>UInt8 | .u16=>UInt16 | .u32=>UInt32 | .u64=>UInt64 | .i=>Int | .b=>Bool
def EK.zero:(k:EK)→k.T
 | .u8=>(0:UInt8) | .u16=>(0:UInt16) | .u32=>(0:UInt32) | .u64=>(0:UInt64) | .i=>(0:Int) | .b=>false
def EK.enc:(k:EK)→k.T→Value
 | .u8,x=>.int .u8 (x:UInt8).toNat | .u16,x=>.int .u16 (x:UInt16).toNat | .u32,x=>.int .u32 (x:UInt32).toNat
 | .u64,x=>.int .u64 (x:UInt64).toNat | .i,x=>.int .i64 x | .b,x=>.bool x
def EK.cast:(k k':EK)→k.T→Option k'.T
 | .u8,.u8,x=>some x | .u16,.u16,x=>some x | .u32,.u32,x=>some x | .u64,.u64,x=>some x | .i,.i,x=>some x | .b,.b,x=>some x
 | _,_,_=>none
inductive PV where
 | sc (k:EK) (x:k.T)
 | arr (k:EK) (n:Nat) (v:Vector k.T n)
 | st (fs:List PV)
 | ar (sz:Nat) (xs:List PV)
 | sl (k:EK) (xs:List k.T)
 | sp (sz:Nat) (xs:List PV)
 | nilp
 | nilm
 | raw (v:Value)
inductive PE where
 | f (j:Nat) | i (j:Nat)
mutual
def PV.size:PV→Nat
 | .sc _ _=>1
 | .arr _ n _=>n
 | .st fs=>PV.sizeL fs
 | .ar sz xs=>xs.length*sz
 | .sl _ _=>1
 | .sp _ _=>1
 | .nilp=>1
 | .nilm=>1
 | .raw _=>1
def PV.sizeL:List PV→Nat
 | []=>0
 | x :: xs=>x.size+PV.sizeL xs
end
def PV.isAgg:PV→Bool
 | .arr .. | .st _ | .ar ..=>true
 | _=>false
def PV.get:PV→List PE→PV
 | x,[]=>x
 | .arr k _ v,.i j :: _=>.sc k (v.toList.getD j k.zero)
 | .st fs,.f j :: π=>PV.get (fs.getD j .nilp) π
 | .ar _ xs,.i j :: π=>PV.get (xs.getD j .nilp) π
 | _,_=>.nilp
def PV.set:PV→List PE→PV→Option PV
 | _,[],y=>some y
 | .arr k n v,[.i j],.sc k' x=>(EK.cast k' k x).map fun x=>.arr k n (v.setIfInBounds j x)
 | .st fs,.f j :: π,y=>(PV.set (fs.getD j .nilp) π y).map fun z=>.st (fs.set j z)
 | .ar sz xs,.i j :: π,y=>(PV.set (xs.getD j .nilp) π y).map fun z=>.ar sz (xs.set j z)
 | _,_,_=>none
def PV.off:PV→List PE→Nat
 | .arr ..,.i j :: _=>j
 | .st fs,.f j :: π=>PV.sizeL (fs.take j)+PV.off (fs.getD j .nilp) π
 | .ar sz xs,.i j :: π=>j*sz+PV.off (xs.getD j .nilp) π
 | _,_=>0
def PV.ok:PV→List PE→Prop
 | _,[]=>True
 | .arr _ n _,[.i j]=>j < n
 | .st fs,.f j :: π=>j < fs.length∧PV.ok (fs.getD j .nilp) π
 | .ar _ xs,.i j :: π=>j < xs.length∧PV.ok (xs.getD j .nilp) π
 | _,_=>False
inductive RC where
 | s (k:EK) (xs:List k.T)
 | p (sz:Nat) (xs:List PV)
def RC.len:RC→Nat
 | .s _ xs=>xs.length
 | .p _ xs=>xs.length
def RC.sz:RC→Nat
 | .s _ _=>1
 | .p sz _=>sz
inductive A where
 | pv (x:PV)
 | p (n:Nat) (π:List PE)
 | pr (n:Nat) (π:List PE) (off len:Nat)
 | rp (x:PV)
 | o (n:Nat)
 | vw (n:Nat) (π:List PE) (off len:Nat) (cap:Option Nat)
 | st (fs:List A)
 | tup (xs:List A)
 | fn (f:Nat) (caps:List A)
 | und
 | bad
inductive Blk where
 | box (c:A)
 | row (rc:RC) (ex:Bool)
 | map (kv:List (PV × PV))
mutual
def A.size:A→Nat
 | .pv x=>x.size
 | .st fs=>A.sizeL fs
 | _=>1
def A.sizeL:List A→Nat
 | []=>0
 | x :: xs=>x.size+A.sizeL xs
end
def A.isAgg:A→Bool
 | .pv x=>x.isAgg
 | .st _=>true
 | _=>false
def A.get:A→List PE→A
 | x,[]=>x
 | .pv x,π=>.pv (x.get π)
 | .st fs,.f j :: π=>A.get (fs.getD j .bad) π
 | _,_=>.bad
mutual
def A.toPV:A→Option PV
 | .pv x=>some x
 | .st fs=>(A.toPVs fs).map .st
 | _=>none
def A.toPVs:List A→Option (List PV)
 | []=>some []
 | x :: xs=>x.toPV.bind fun y=>(A.toPVs xs).map (y :: ·)
end
def A.set:A→List PE→A→Option A
 | _,[],y=>some y
 | .st fs,.f j :: π,y=>(A.set (fs.getD j .bad) π y).map fun z=>.st (fs.set j z)
 | .pv x,π,.pv y=>(x.set π y).map .pv
 | .pv (.st xs),.f j :: π,y=>(A.set (.pv (xs.getD j .nilp)) π y).map fun z=>.st ((xs.map A.pv).set j z)
 | _,_,_=>none
def A.off:A→List PE→Nat
 | .pv x,π=>x.off π
 | .st fs,.f j :: π=>A.sizeL (fs.take j)+A.off (fs.getD j .bad) π
 | _,_=>0
def A.ok:A→List PE→Prop
 | _,[]=>True
 | .pv x,π=>x.ok π
 | .st fs,.f j :: π=>j < fs.length∧A.ok (fs.getD j .bad) π
 | _,_=>False
def RC.get:RC→List PE→PV
 | .s k xs,.i j :: _=>.sc k (xs.getD j k.zero)
 | .p _ xs,.i j :: π=>PV.get (xs.getD j .nilp) π
 | _,_=>.nilp
def RC.set:RC→List PE→PV→Option RC
 | .s k xs,[.i j],.sc k' x=>(EK.cast k' k x).map fun x=>.s k (xs.set j x)
 | .p sz xs,.i j :: π,y=>(PV.set (xs.getD j .nilp) π y).map fun z=>.p sz (xs.set j z)
 | _,_,_=>none
def RC.off:RC→List PE→Nat
 | .s ..,.i j :: _=>j
 | .p sz xs,.i j :: π=>j*sz+PV.off (xs.getD j .nilp) π
 | _,_=>0
def RC.ok:RC→List PE→Prop
 | .s _ xs,[.i j]=>j < xs.length
 | .p _ xs,.i j :: π=>j < xs.length∧PV.ok (xs.getD j .nilp) π
 | _,_=>False
def Blk.get:Blk→List PE→A
 | .box c,π=>c.get π
 | .row rc _,π=>.pv (rc.get π)
 | .map _,_=>.bad
def Blk.set:Blk→List PE→A→Option Blk
 | .box c,π,y=>(c.set π y).map .box
 | .row rc ex,π,.pv y=>(rc.set π y).map (.row · ex)
 | _,_,_=>none
def Blk.off:Blk→List PE→Nat
 | .box c,π=>c.off π
 | .row rc _,π=>rc.off π
 | .map _,_=>0
def Blk.ok:Blk→List PE→Prop
 | .box c,π=>c.ok π
 | .row rc _,π=>rc.ok π
 | .map _,_=>False
def arrLen:A→Option (Nat × Nat)
 | .pv (.arr _ n _)=>some (n,1)
 | .pv (.ar sz xs)=>some (xs.length,sz)
 | _=>none
def Blk.arrLen:Blk→List PE→Option (Nat × Nat)
 | .row rc _,[]=>some (rc.len,rc.sz)
 | b,π=>M.arrLen (b.get π)
def Blk.okv:Blk→List PE→Prop
 | .row _ _,[]=>True
 | b,π=>b.ok π
def Blk.isRow:Blk→Bool
 | .row _ _=>true
 | .box _=>false
 | .map _=>true
def zgd:List PE→List PE→Bool
 | .f j :: π,.f j' :: π'=>Nat.beq j j' && zgd π π'
 | .i _ :: π,.i _ :: π'=>zgd π π'
 | [],_=>true
 | _,[]=>true
 | _,_=>false
def zaO (π0:List PE) (v:Bool) (π:List PE):Bool :=
 (bif v then Nat.ble π0.length π.length else Nat.blt π0.length π.length) && zgd π0 π
mutual
def A.all (m:Bool→Nat→List PE→Bool):A→Bool
 | .pv _=>true
 | .p n π=>m false n π
 | .pr n π _ _=>m true n π
 | .rp _=>true
 | .o n=>m true n []
 | .vw n π _ _ _=>m true n π
 | .st fs=>A.allL m fs
 | .tup fs=>A.allL m fs
 | .fn _ fs=>A.allL m fs
 | .und=>true
 | .bad=>true
def A.allL (m:Bool→Nat→List PE→Bool):List A→Bool
 | []=>true
 | x :: xs=>x.all m && A.allL m xs
end
def w64 (x:Int):Int:=IntKind.i64.wrap x
def iand (x y:Int):Int:=IntKind.i64.wrap ((BitVec.ofInt 64 x &&& BitVec.ofInt 64 y).toNat)
def ior (x y:Int):Int:=IntKind.i64.wrap ((BitVec.ofInt 64 x ||| BitVec.ofInt 64 y).toNat)
def ixor (x y:Int):Int:=IntKind.i64.wrap ((BitVec.ofInt 64 x ^^^ BitVec.ofInt 64 y).toNat)
def zI4 (x y:Int):Int:=IntKind.i64.wrap ((BitVec.ofInt 64 x &&& ~~~ BitVec.ofInt 64 y).toNat)
def zJ0 (x:Int) (c:Nat):Int:=w64 (x*2 ^ (min c 64))
def zJX (x:Int) (c:Nat):Int:=x.fdiv (2 ^ (min c 64))
def zIC (x:UInt8) (c:Nat):UInt8:=UInt8.ofNat (x.toNat*2 ^ (min c 8))
def zIt (x:UInt8) (c:Nat):UInt8:=UInt8.ofNat (x.toNat / 2 ^ (min c 8))
def zp4 (op:BinOp) (x y:UInt8):Option PV :=
 match op with
 | .add=>some (.sc .u8 (x+y)) | .sub=>some (.sc .u8 (x - y)) | .mul=>some (.sc .u8 (x*y))
 | .quo=>if y=0 then none else some (.sc .u8 (x / y))
 | .rem=>if y=0 then none else some (.sc .u8 (x % y))
 | .and=>some (.sc .u8 (x &&& y)) | .or=>some (.sc .u8 (x ||| y)) | .xor=>some (.sc .u8 (x ^^^ y)) | .andNot=>some (.sc .u8 (x &&& ~~~ y))
 | .eql=>some (.sc .b (decide (x=y))) | .neq=>some (.sc .b (!decide (x=y)))
 | .lss=>some (.sc .b (decide (x < y))) | .leq=>some (.sc .b (decide (x≤y))) | .gtr=>some (.sc .b (decide (y < x))) | .geq=>some (.sc .b (decide (y≤x)))
 | _=>none
def zHp (x:UInt16) (c:Nat):UInt16:=UInt16.ofNat (x.toNat*2 ^ (min c 16))
def zHa (x:UInt16) (c:Nat):UInt16:=UInt16.ofNat (x.toNat / 2 ^ (min c 16))
def zkX (op:BinOp) (x y:UInt16):Option PV :=
 match op with
 | .add=>some (.sc .u16 (x+y)) | .sub=>some (.sc .u16 (x - y)) | .mul=>some (.sc .u16 (x*y))
 | .quo=>if y=0 then none else some (.sc .u16 (x / y))
 | .rem=>if y=0 then none else some (.sc .u16 (x % y))
 | .and=>some (.sc .u16 (x &&& y)) | .or=>some (.sc .u16 (x ||| y)) | .xor=>some (.sc .u16 (x ^^^ y)) | .andNot=>some (.sc .u16 (x &&& ~~~ y))
 | .eql=>some (.sc .b (decide (x=y))) | .neq=>some (.sc .b (!decide (x=y)))
 | .lss=>some (.sc .b (decide (x < y))) | .leq=>some (.sc .b (decide (x≤y))) | .gtr=>some (.sc .b (decide (y < x))) | .geq=>some (.sc .b (decide (y≤x)))
 | _=>none
def zcb (x:UInt32) (c:Nat):UInt32:=UInt32.ofNat (x.toNat*2 ^ (min c 32))
def zaP (x:UInt32) (c:Nat):UInt32:=UInt32.ofNat (x.toNat / 2 ^ (min c 32))
def zkB (op:BinOp) (x y:UInt32):Option PV :=
 match op with
 | .add=>some (.sc .u32 (x+y)) | .sub=>some (.sc .u32 (x - y)) | .mul=>some (.sc .u32 (x*y))
 | .quo=>if y=0 then none else some (.sc .u32 (x / y))
 | .rem=>if y=0 then none else some (.sc .u32 (x % y))
 | .and=>some (.sc .u32 (x &&& y)) | .or=>some (.sc .u32 (x ||| y)) | .xor=>some (.sc .u32 (x ^^^ y)) | .andNot=>some (.sc .u32 (x &&& ~~~ y))
 | .eql=>some (.sc .b (decide (x=y))) | .neq=>some (.sc .b (!decide (x=y)))
 | .lss=>some (.sc .b (decide (x < y))) | .leq=>some (.sc .b (decide (x≤y))) | .gtr=>some (.sc .b (decide (y < x))) | .geq=>some (.sc .b (decide (y≤x)))
 | _=>none
def zaq (x:UInt64) (c:Nat):UInt64:=UInt64.ofNat (x.toNat*2 ^ (min c 64))
def zaa (x:UInt64) (c:Nat):UInt64:=UInt64.ofNat (x.toNat / 2 ^ (min c 64))
def zlj (op:BinOp) (x y:UInt64):Option PV :=
 match op with
 | .add=>some (.sc .u64 (x+y)) | .sub=>some (.sc .u64 (x - y)) | .mul=>some (.sc .u64 (x*y))
 | .quo=>if y=0 then none else some (.sc .u64 (x / y))
 | .rem=>if y=0 then none else some (.sc .u64 (x % y))
 | .and=>some (.sc .u64 (x &&& y)) | .or=>some (.sc .u64 (x ||| y)) | .xor=>some (.sc .u64 (x ^^^ y)) | .andNot=>some (.sc .u64 (x &&& ~~~ y))
 | .eql=>some (.sc .b (decide (x=y))) | .neq=>some (.sc .b (!decide (x=y)))
 | .lss=>some (.sc .b (decide (x < y))) | .leq=>some (.sc .b (decide (x≤y))) | .gtr=>some (.sc .b (decide (y < x))) | .geq=>some (.sc .b (decide (y≤x)))
 | _=>none
def zFq (op:BinOp) (x y:Int):Option PV :=
 match op with
 | .add=>some (.sc .i (w64 (x+y))) | .sub=>some (.sc .i (w64 (x - y))) | .mul=>some (.sc .i (w64 (x*y)))
 | .quo=>if y=0 then none else some (.sc .i (w64 (x.tdiv y)))
 | .rem=>if y=0 then none else some (.sc .i (x.tmod y))
 | .and=>some (.sc .i (iand x y)) | .or=>some (.sc .i (ior x y)) | .xor=>some (.sc .i (ixor x y)) | .andNot=>some (.sc .i (zI4 x y))
 | .eql=>some (.sc .b (decide (x=y))) | .neq=>some (.sc .b (!decide (x=y)))
 | .lss=>some (.sc .b (decide (x < y))) | .leq=>some (.sc .b (decide (x≤y))) | .gtr=>some (.sc .b (decide (y < x))) | .geq=>some (.sc .b (decide (y≤x)))
 | _=>none
def cnt:PV→Option Nat
 | .sc .u8 c=>some (c:UInt8).toNat | .sc .u16 c=>some (c:UInt16).toNat | .sc .u32 c=>some (c:UInt32).toNat | .sc .u64 c=>some (c:UInt64).toNat
 | .sc .i c=>if 0≤(c:Int)then some (c:Int).toNat else none
 | _=>none
def zfh (left:Bool) (x:PV) (c:Nat):Option PV :=
 match left,x with
 | true,.sc .u8 x=>some (.sc .u8 (zIC x c)) | true,.sc .u16 x=>some (.sc .u16 (zHp x c)) | true,.sc .u32 x=>some (.sc .u32 (zcb x c))
 | true,.sc .u64 x=>some (.sc .u64 (zaq x c)) | true,.sc .i x=>some (.sc .i (zJ0 x c))
 | false,.sc .u8 x=>some (.sc .u8 (zIt x c)) | false,.sc .u16 x=>some (.sc .u16 (zHa x c)) | false,.sc .u32 x=>some (.sc .u32 (zaP x c))
 | false,.sc .u64 x=>some (.sc .u64 (zaa x c)) | false,.sc .i x=>some (.sc .i (zJX x c))
 | _,_=>none
def conv (to:IntKind) (x:PV):Option PV :=
 match to,x with
 | .u8,.sc .u8 x=>some (.sc .u8 x)
 | .u16,.sc .u8 x=>some (.sc .u16 (x:UInt8).toUInt16)
 | .u32,.sc .u8 x=>some (.sc .u32 (x:UInt8).toUInt32)
 | .u64,.sc .u8 x=>some (.sc .u64 (x:UInt8).toUInt64)
 | .i64,.sc .u8 x=>some (.sc .i ((x:UInt8).toNat:Int))
 | .u8,.sc .i x=>some (.sc .u8 (UInt8.ofInt x))
 | .u8,.sc .u16 x=>some (.sc .u8 (x:UInt16).toUInt8)
 | .u16,.sc .u16 x=>some (.sc .u16 x)
 | .u32,.sc .u16 x=>some (.sc .u32 (x:UInt16).toUInt32)
 | .u64,.sc .u16 x=>some (.sc .u64 (x:UInt16).toUInt64)
 | .i64,.sc .u16 x=>some (.sc .i ((x:UInt16).toNat:Int))
 | .u16,.sc .i x=>some (.sc .u16 (UInt16.ofInt x))
 | .u8,.sc .u32 x=>some (.sc .u8 (x:UInt32).toUInt8)
 | .u16,.sc .u32 x=>some (.sc .u16 (x:UInt32).toUInt16)
 | .u32,.sc .u32 x=>some (.sc .u32 x)
 | .u64,.sc .u32 x=>some (.sc .u64 (x:UInt32).toUInt64)
 | .i64,.sc .u32 x=>some (.sc .i ((x:UInt32).toNat:Int))
 | .u32,.sc .i x=>some (.sc .u32 (UInt32.ofInt x))
 | .u8,.sc .u64 x=>some (.sc .u8 (x:UInt64).toUInt8)
 | .u16,.sc .u64 x=>some (.sc .u16 (x:UInt64).toUInt16)
 | .u32,.sc .u64 x=>some (.sc .u32 (x:UInt64).toUInt32)
 | .u64,.sc .u64 x=>some (.sc .u64 x)
 | .i64,.sc .u64 x=>some (.sc .i (w64 ((x:UInt64).toNat:Int)))
 | .u64,.sc .i x=>some (.sc .u64 (UInt64.ofInt x))
 | .i64,.sc .i x=>some (.sc .i (w64 x))
 | _,_=>none
def un (op:UnOp) (x:PV):Option PV :=
 match op,x with
 | .not,.sc .b x=>some (.sc .b (!x))
 | .neg,.sc .i x=>some (.sc .i (w64 (0 - x)))
 | .xor,.sc .i x=>some (.sc .i (ixor (-1) x))
 | .neg,.sc .u8 x=>some (.sc .u8 ((0:UInt8) - x))
 | .xor,.sc .u8 x=>some (.sc .u8 (~~~ (x:UInt8)))
 | .neg,.sc .u16 x=>some (.sc .u16 ((0:UInt16) - x))
 | .xor,.sc .u16 x=>some (.sc .u16 (~~~ (x:UInt16)))
 | .neg,.sc .u32 x=>some (.sc .u32 ((0:UInt32) - x))
 | .xor,.sc .u32 x=>some (.sc .u32 (~~~ (x:UInt32)))
 | .neg,.sc .u64 x=>some (.sc .u64 ((0:UInt64) - x))
 | .xor,.sc .u64 x=>some (.sc .u64 (~~~ (x:UInt64)))
 | _,_=>none
def zuk (op:BinOp) (x y:PV):Option PV :=
 match op,x,y with
 | .shl,x,y=>(cnt y).bind (zfh true x)
 | .shr,x,y=>(cnt y).bind (zfh false x)
 | op,.sc .u8 x,.sc .u8 y=>zp4 op x y | op,.sc .u16 x,.sc .u16 y=>zkX op x y | op,.sc .u32 x,.sc .u32 y=>zkB op x y
 | op,.sc .u64 x,.sc .u64 y=>zlj op x y | op,.sc .i x,.sc .i y=>zFq op x y
 | _,_,_=>none
def zsr (v:Value):A :=
 match v with
 | .bool x=>.pv (.sc .b x)
 | .int .i64 n=>.pv (.sc .i n)
 | .int .u8 n=>if 0≤n∧n < 2 ^ 8 then .pv (.sc .u8 (UInt8.ofNat n.toNat))else .bad
 | .int .u16 n=>if 0≤n∧n < 2 ^ 16 then .pv (.sc .u16 (UInt16.ofNat n.toNat))else .bad
 | .int .u32 n=>if 0≤n∧n < 2 ^ 32 then .pv (.sc .u32 (UInt32.ofNat n.toNat))else .bad
 | .int .u64 n=>if 0≤n∧n < 2 ^ 64 then .pv (.sc .u64 (UInt64.ofNat n.toNat))else .bad
 | .pointer none=>.pv .nilp
 | .map none=>.pv .nilm
 | _=>.bad
end Go.Proofs.YtnolgfdjcipmmaaDoor.M
namespace Go.Proofs.YtnolgfdjcipmmaaDoor.M
open Go
def CellsAt (h:Array Obj) (b off:Nat) (vs:List Value):Prop :=
 ∃ c T fz,h[b]?=some (.cells c T fz)∧∀ i v,vs[i]?=some v→c[off+i]?=some v
mutual
inductive RepPV (S:Nat→Prop) (h:Array Obj):PV→List Value→Prop
 | sc (k:EK) (x:k.T):RepPV S h (.sc k x) [k.enc x]
 | arr (k:EK) (n:Nat) (v:Vector k.T n):RepPV S h (.arr k n v) (v.toList.map k.enc)
 | st {fs vs}:RepL S h fs vs→RepPV S h (.st fs) vs
 | ar {sz xs vs}:(∀ x ∈ xs,x.size=sz)→RepL S h xs vs→RepPV S h (.ar sz xs) vs
 | sl {k:EK} {xs:List k.T} {a cap}:xs.length≤cap→(xs=[]∨∃ b off,a=some ⟨b,off,none⟩∧S b∧CellsAt h b off (xs.map k.enc)) →
   RepPV S h (.sl k xs) [.slice a xs.length cap]
 | sp {sz xs vs a cap}:xs.length≤cap→(∀ x ∈ xs,x.size=sz)→RepL S h xs vs→(xs=[]∨∃ b off,a=some ⟨b,off,none⟩∧S b∧CellsAt h b off vs) →
   RepPV S h (.sp sz xs) [.slice a xs.length cap]
 | nilp:RepPV S h .nilp [.pointer none]
 | nilm:RepPV S h .nilm [.map none]
 | raw {v:Value}:v.oneCell'=true→v.cells=#[v]→RepPV S h (.raw v) [v]
inductive RepL (S:Nat→Prop) (h:Array Obj):List PV→List Value→Prop
 | nil:RepL S h [] []
 | cons {x vs xs us}:RepPV S h x vs→RepL S h xs us→RepL S h (x :: xs) (vs++us)
end
theorem zdS {α:Type} (l:List α) (j:Nat) (d:α) (h:j < l.length):l.getD j d=l[j]:=by
 simp[List.getD,h]
theorem zlv:∀ {xs:List PV} {sz:Nat},(∀ x ∈ xs,x.size=sz)→PV.sizeL xs=xs.length*sz
 | [],_,_=>by simp[PV.sizeL]
 | x :: xs,sz,e=>by
  rw[PV.sizeL,e x (by simp),zlv (xs:=xs) (fun y hy=>e y (by simp[hy])),List.length_cons,Nat.add_mul,Nat.one_mul,Nat.add_comm]
section
variable {S S':Nat→Prop} {h h':Array Obj}
theorem CellsAt.mono {b off:Nat} {vs:List Value} (hc:CellsAt h b off vs) (e:h'[b]?=h[b]?):CellsAt h' b off vs:=by
 obtain ⟨c,T,fz,h1,h2⟩:=hc
 exact ⟨c,T,fz,e.trans h1,h2⟩
mutual
theorem RepPV.mono (hS:∀ b,S b→S' b) (hh:∀ b,S b→h'[b]?=h[b]?):∀ {x vs},RepPV S h x vs→RepPV S' h' x vs
 | _,_,.sc k x=>.sc k x
 | _,_,.arr k n v=>.arr k n v
 | _,_,.st r=>.st (RepL.mono hS hh r)
 | _,_,.ar e r=>.ar e (RepL.mono hS hh r)
 | _,_,.sl e r=>.sl e (r.imp id fun ⟨b,off,e1,e2,e3⟩=>⟨b,off,e1,hS _ e2,e3.mono (hh _ e2)⟩)
 | _,_,.sp e q l r=>.sp e q (RepL.mono hS hh l) (r.imp id fun ⟨b,off,e1,e2,e3⟩=>⟨b,off,e1,hS _ e2,e3.mono (hh _ e2)⟩)
 | _,_,.nilp=>.nilp
 | _,_,.nilm=>.nilm
 | _,_,.raw a b=>.raw a b
theorem RepL.mono (hS:∀ b,S b→S' b) (hh:∀ b,S b→h'[b]?=h[b]?):∀ {xs vs},RepL S h xs vs→RepL S' h' xs vs
 | _,_,.nil=>.nil
 | _,_,.cons a r=>.cons (RepPV.mono hS hh a) (RepL.mono hS hh r)
end
mutual
theorem RepPV.size:∀ {x vs},RepPV S h x vs→vs.length=x.size
 | _,_,.sc k x=>rfl
 | _,_,.arr k n v=>by simp[PV.size]
 | _,_,.st r=>by rw[PV.size]; exact RepL.size r
 | _,_,.ar e r=>by rw[PV.size,RepL.size r,zlv e]
 | _,_,.sl _ _=>rfl
 | _,_,.sp _ _ _ _=>rfl
 | _,_,.nilp=>rfl
 | _,_,.nilm=>rfl
 | _,_,.raw _ _=>rfl
theorem RepL.size:∀ {xs vs},RepL S h xs vs→vs.length=PV.sizeL xs
 | _,_,.nil=>rfl
 | _,_,.cons a r=>by rw[List.length_append,RepPV.size a,RepL.size r,PV.sizeL]
end
theorem RepL.append:∀ {xs vs ys us},RepL S h xs vs→RepL S h ys us→RepL S h (xs++ys) (vs++us)
 | _,_,_,_,.nil,q=>q
 | _,_,_,_,.cons a r,q=>by rw[List.append_assoc]; exact .cons a (r.append q)
theorem RepL.part:∀ {xs vs},RepL S h xs vs→∀ j,j < xs.length→∃ A us B,vs=A++us++B∧A.length=PV.sizeL (xs.take j)∧RepPV S h (xs.getD j .nilp) us ∧
  ∀ y us',RepPV S h y us'→RepL S h (xs.set j y) (A++us' ++ B)
 | _,_,.nil,j,hj=>by simp at hj
 | _,_,.cons (x:=x) (vs:=vs) (xs:=xs) (us:=us) a r,0,_=>by
  refine ⟨[],vs,us,rfl,rfl,by simpa using a,fun y us' hy=>?_⟩
  simpa using RepL.cons hy r
 | _,_,.cons (x:=x) (vs:=vs) (xs:=xs) (us:=us) a r,j+1,hj=>by
  obtain ⟨A,u,B,e1,e2,e3,e4⟩:=r.part j (by simpa using hj)
  refine ⟨vs++A,u,B,by simp[e1],by simp[PV.sizeL,e2,RepPV.size a],by simpa using e3,fun y us' hy=>?_⟩
  have:=RepL.cons a (e4 y us' hy)
  simpa using this
theorem RepPV.part:∀ (π:List PE) {x vs},RepPV S h x vs→x.ok π→∃ A us B,vs=A++us++B∧A.length=x.off π∧RepPV S h (x.get π) us ∧
  ∀ y us' x',RepPV S h y us'→y.size=(x.get π).size→x.set π y=some x'→RepPV S h x' (A++us' ++ B)
 | [],x,vs,r,_=>by
  refine ⟨[],vs,[],by simp,by cases x<;>rfl,by cases x<;>exact r,fun y us' x' hy _ hx=>?_⟩
  have:x'=y:=by cases x<;>simp[PV.set]at hx<;>exact hx.symm
  subst this
  simpa using hy
 | p :: π,_,_,.sc k x,ok=>by simp[PV.ok]at ok
 | p :: π,_,_,.sl _ _,ok=>by simp[PV.ok]at ok
 | p :: π,_,_,.sp _ _ _ _,ok=>by simp[PV.ok]at ok
 | p :: π,_,_,.nilp,ok=>by simp[PV.ok]at ok
 | p :: π,_,_,.nilm,ok=>by simp[PV.ok]at ok
 | p :: π,_,_,.raw _ _,ok=>by simp[PV.ok]at ok
 | p :: π,_,_,.arr k n v,ok=>by
  cases p with
  | f j=>simp[PV.ok]at ok
  | i j =>
   cases π with
   | cons _ _=>simp[PV.ok]at ok
   | nil =>
    simp only[PV.ok]at ok
    have hl:v.toList.length=n:=by simp
    refine ⟨(v.toList.take j).map k.enc,[k.enc (v.toList.getD j k.zero)],(v.toList.drop (j+1)).map k.enc,?_,by simp[PV.off]; omega,.sc _ _,fun y us' x' hy hs hx=>?_⟩
    ·have:v.toList=v.toList.take j++[v.toList.getD j k.zero]++v.toList.drop (j+1):=by
      rw[zdS _ _ _ (by omega),List.append_assoc,List.singleton_append,List.getElem_cons_drop,List.take_append_drop]
     calc v.toList.map k.enc=(v.toList.take j++[v.toList.getD j k.zero]++v.toList.drop (j+1)).map k.enc:=by rw[←this]
      _=_:=by simp
    ·cases hy with
     | sc k' y =>
      simp only[PV.set,Option.map_eq_some_iff]at hx
      obtain ⟨z,hz,rfl⟩:=hx
      have hk:k'=k∧HEq z y:=by
       cases k'<;>cases k<;>simp[EK.cast]at hz<;>subst hz<;>exact ⟨rfl,HEq.rfl⟩
      obtain ⟨rfl,hzy⟩:=hk
      have hzy:=eq_of_heq hzy
      subst hzy
      have:(v.setIfInBounds j z).toList.map k'.enc=(v.toList.take j).map k'.enc++[k'.enc z]++(v.toList.drop (j+1)).map k'.enc:=by
       rw[Vector.toList_setIfInBounds,List.set_eq_take_append_cons_drop,if_pos (by omega)]
       simp
      rw[←this]
      exact .arr _ _ _
     | arr=>simp[PV.set]at hx
     | st=>simp[PV.set]at hx
     | ar=>simp[PV.set]at hx
     | sl=>simp[PV.set]at hx
     | sp=>simp[PV.set]at hx
     | nilp=>simp[PV.set]at hx
     | nilm=>simp[PV.set]at hx
     | raw _ _=>simp[PV.set]at hx
 | p :: π,_,_,.st (fs:=fs) (vs:=vs) r,ok=>by
  cases p with
  | i j=>simp[PV.ok]at ok
  | f j =>
   simp only[PV.ok]at ok
   obtain ⟨A,us,B,e1,e2,e3,e4⟩:=r.part j ok.1
   obtain ⟨A',us',B',d1,d2,d3,d4⟩:=RepPV.part π e3 ok.2
   refine ⟨A++A',us',B' ++ B,by simp[e1,d1],by simp[PV.off,e2,d2],by simpa [PV.get] using d3,fun y u x' hy hs hx=>?_⟩
   simp only[PV.set,Option.map_eq_some_iff]at hx
   obtain ⟨z,hz,rfl⟩:=hx
   have:=e4 z _ (d4 y u z hy (by simpa [PV.get] using hs) hz)
   simpa using RepPV.st this
 | p :: π,_,_,.ar (sz:=sz) (xs:=xs) (vs:=vs) e r,ok=>by
  cases p with
  | f j=>simp[PV.ok]at ok
  | i j =>
   simp only[PV.ok]at ok
   obtain ⟨A,us,B,e1,e2,e3,e4⟩:=r.part j ok.1
   obtain ⟨A',us',B',d1,d2,d3,d4⟩:=RepPV.part π e3 ok.2
   have hj:PV.sizeL (xs.take j)=j*sz:=by
    rw[zlv (fun x hx=>e x (List.mem_of_mem_take hx)),List.length_take]
    rw[Nat.min_eq_left (by omega)]
   refine ⟨A++A',us',B' ++ B,by simp[e1,d1],by simp[PV.off,e2,d2,hj],by simpa [PV.get] using d3,fun y u x' hy hs hx=>?_⟩
   simp only[PV.set,Option.map_eq_some_iff]at hx
   obtain ⟨z,hz,rfl⟩:=hx
   have hzr:=d4 y u z hy (by simpa [PV.get] using hs) hz
   have hr:=e4 z _ hzr
   have hsz:z.size=sz:=by
    have h1:=RepPV.size hzr
    have h2:=RepPV.size e3
    have h3:(xs.getD j .nilp).size=sz:=e _ (by rw[zdS _ _ _ ok.1]; exact List.getElem_mem _)
    have h4:=RepPV.size hy
    have h5:=RepPV.size d3
    simp only[PV.get]at hs
    rw[d1]at h2
    simp only[List.length_append]at h1 h2
    omega
   have:RepPV S h (.ar sz (xs.set j z)) (A++(A' ++ u++B')++B):=.ar (fun w hw=>by
    rcases List.mem_or_eq_of_mem_set hw with hw | rfl
    ·exact e _ hw
    ·exact hsz) hr
   simpa using this
end
end Go.Proofs.YtnolgfdjcipmmaaDoor.M
namespace Go.Proofs.YtnolgfdjcipmmaaDoor.M
open Go
theorem PV.off_nil (x:PV):x.off []=0:=by cases x<;>rfl
theorem PV.ok_nil (x:PV):x.ok []:=by cases x<;>trivial
theorem PV.get_nil (x:PV):x.get []=x:=by cases x<;>rfl
theorem A.off_nil (x:A):x.off []=0:=by cases x<;>(first | rfl | exact PV.off_nil _)
theorem A.ok_nil (x:A):x.ok []:=by cases x<;>trivial
theorem A.get_nil (x:A):x.get []=x:=by cases x<;>rfl
theorem sizeL_set {xs:List PV} {j:Nat} {z:PV} (h:z.size=(xs.getD j .nilp).size):∀ k,PV.sizeL ((xs.set j z).take k)=PV.sizeL (xs.take k):=by
 induction xs generalizing j with
 | nil=>intro k; simp
 | cons x xs ih =>
  intro k
  cases k with
  | zero=>simp
  | succ k =>
   cases j with
   | zero=>simp at h; simp[PV.sizeL,h]
   | succ j=>simp at h; simp[PV.sizeL,ih h k]
theorem getD_set_ne {α:Type} (xs:List α) (j k:Nat) (z d:α) (h:j≠k):(xs.set j z).getD k d=xs.getD k d:=by
 simp[List.getD,List.getElem?_set_ne h]
theorem zb6 {α:Type} (xs:List α) (j:Nat) (z d:α) (h:j < xs.length):(xs.set j z).getD j d=z:=by
 simp[List.getD,h]
theorem PV.set_keeps:∀ (π0:List PE) {x y x':PV},x.set π0 y=some x'→x.ok π0→y.size=(x.get π0).size →
  x'.size=x.size∧(π0≠[]→x'.isAgg=x.isAgg)∧∀ π v,zaO π0 v π=false→x.ok π →
   x'.ok π∧x'.off π=x.off π∧(v=true→M.arrLen (.pv (x'.get π))=M.arrLen (.pv (x.get π)))
 | [],x,y,x',h,_,hs=>by
  have:x'=y:=by cases x<;>simp[PV.set]at h<;>exact h.symm
  subst this
  rw[PV.get_nil]at hs
  refine ⟨hs,fun h=>absurd rfl h,fun π v hst hok=>?_⟩
  cases v with
  | true =>
   simp[zaO,zgd]at hst
   rw[Nat.ble_eq_true_of_le (Nat.zero_le _)]at hst
   cases hst
  | false =>
   cases π with
   | nil=>exact ⟨PV.ok_nil _,by rw[PV.off_nil,PV.off_nil],fun h=>by cases h⟩
   | cons p π =>
    simp[zaO,zgd]at hst
    rw[show Nat.blt 0 (π.length+1)=true from Nat.ble_eq_true_of_le (by omega)]at hst
    cases hst
 | p :: π0,x,y,x',h,hok,hs=>by
  cases x with
  | sc k x=>simp[PV.ok]at hok
  | sl k x=>simp[PV.ok]at hok
  | sp k x=>simp[PV.ok]at hok
  | nilp=>simp[PV.ok]at hok
  | nilm=>simp[PV.ok]at hok
  | raw _=>simp[PV.ok]at hok
  | arr k n v =>
   cases p with
   | f j=>simp[PV.ok]at hok
   | i j =>
    cases π0 with
    | cons _ _=>simp[PV.ok]at hok
    | nil =>
     have:∃ v',x'=.arr k n v':=by
      cases y<;>simp[PV.set,Option.map_eq_some_iff]at h
      obtain ⟨z,_,rfl⟩:=h
      exact ⟨_,rfl⟩
     obtain ⟨v',rfl⟩:=this
     refine ⟨rfl,fun _=>rfl,fun π u hst hk=>?_⟩
     cases π with
     | nil=>exact ⟨trivial,rfl,fun _=>rfl⟩
     | cons q π =>
      cases q with
      | f j=>simp[PV.ok]at hk
      | i j' =>
       cases π with
       | cons _ _=>simp[PV.ok]at hk
       | nil=>exact ⟨hk,rfl,fun _=>rfl⟩
  | st fs =>
   cases p with
   | i j=>simp[PV.ok]at hok
   | f j =>
    simp only[PV.ok]at hok
    simp only[PV.set,Option.map_eq_some_iff]at h
    obtain ⟨z,hz,rfl⟩:=h
    simp only[PV.get]at hs
    obtain ⟨h1,h2,h3⟩:=PV.set_keeps π0 hz hok.2 hs
    have hsz:=sizeL_set (xs:=fs) (j:=j) (z:=z) h1
    refine ⟨?_,fun _=>rfl,fun π u hst hk=>?_⟩
    ·have:=hsz fs.length
     simp only[PV.size]
     rwa [List.take_of_length_le (by simp),List.take_of_length_le (by simp)]at this
    ·cases π with
     | nil=>exact ⟨trivial,rfl,fun _=>rfl⟩
     | cons q π =>
      cases q with
      | i j=>simp[PV.ok]at hk
      | f j' =>
       simp only[PV.ok]at hk
       by_cases e:j=j'
       ·subst e
        have hst':zaO π0 u π=false:=by
         simp[zaO,zgd]at hst ⊢
         cases u<;>simpa using hst
        obtain ⟨g1,g2,g3⟩:=h3 π u hst' hk.2
        refine ⟨⟨by simpa using hk.1,by rw[zb6 _ _ _ _ hk.1]; exact g1⟩,?_,?_⟩
        ·simp only[PV.off,hsz,zb6 _ _ _ _ hk.1,g2]
        ·simp only[PV.get,zb6 _ _ _ _ hk.1]; exact g3
       ·refine ⟨⟨by simpa using hk.1,by rw[getD_set_ne _ _ _ _ _ e]; exact hk.2⟩,?_,?_⟩
        ·simp only[PV.off,hsz,getD_set_ne _ _ _ _ _ e]
        ·intro _; simp only[PV.get,getD_set_ne _ _ _ _ _ e]
  | ar sz xs =>
   cases p with
   | f j=>simp[PV.ok]at hok
   | i j =>
    simp only[PV.ok]at hok
    simp only[PV.set,Option.map_eq_some_iff]at h
    obtain ⟨z,hz,rfl⟩:=h
    simp only[PV.get]at hs
    obtain ⟨h1,h2,h3⟩:=PV.set_keeps π0 hz hok.2 hs
    refine ⟨by simp[PV.size],fun _=>rfl,fun π u hst hk=>?_⟩
    cases π with
    | nil=>exact ⟨trivial,rfl,fun _=>by simp[PV.get,M.arrLen]⟩
    | cons q π =>
     cases q with
     | f j=>simp[PV.ok]at hk
     | i j' =>
      simp only[PV.ok]at hk
      have hst':zaO π0 u π=false:=by
       simp[zaO,zgd]at hst ⊢
       cases u<;>simpa using hst
      by_cases e:j=j'
      ·subst e
       obtain ⟨g1,g2,g3⟩:=h3 π u hst' hk.2
       refine ⟨by simp only[PV.ok]; exact ⟨by simpa using hk.1,by rw[zb6 _ _ _ _ hk.1]; exact g1⟩,?_,?_⟩
       ·simp only[PV.off,zb6 _ _ _ _ hk.1,g2]
       ·simp only[PV.get,zb6 _ _ _ _ hk.1]; exact g3
      ·refine ⟨by simp only[PV.ok]; exact ⟨by simpa using hk.1,by rw[getD_set_ne _ _ _ _ _ e]; exact hk.2⟩,?_,?_⟩
       ·simp only[PV.off,getD_set_ne _ _ _ _ _ e]
       ·intro _; simp only[PV.get,getD_set_ne _ _ _ _ _ e]
end Go.Proofs.YtnolgfdjcipmmaaDoor.M
namespace Go.Proofs.YtnolgfdjcipmmaaDoor.M
open Go
theorem A.sizeL_set {xs:List A} {j:Nat} {z:A} (h:z.size=(xs.getD j .bad).size):∀ k,A.sizeL ((xs.set j z).take k)=A.sizeL (xs.take k):=by
 induction xs generalizing j with
 | nil=>intro k; simp
 | cons x xs ih =>
  intro k
  cases k with
  | zero=>simp
  | succ k =>
   cases j with
   | zero=>simp at h; simp[A.sizeL,h]
   | succ j=>simp at h; simp[A.sizeL,ih h k]
theorem zx9 (xs:List PV):A.sizeL (xs.map A.pv)=PV.sizeL xs:=by
 induction xs with
 | nil=>rfl
 | cons x xs ih=>simp[A.sizeL,PV.sizeL,A.size,ih]
theorem zCl (xs:List PV) (j:Nat) (h:j < xs.length):(xs.map A.pv).getD j .bad=.pv (xs.getD j .nilp):=by
 simp[List.getD,h]
theorem A.get_pv (x:PV) (π:List PE):(A.pv x).get π=.pv (x.get π):=by
 cases π with
 | nil=>rw[A.get_nil,PV.get_nil]
 | cons q π=>rfl
theorem A.off_pv (x:PV) (π:List PE):(A.pv x).off π=x.off π:=by cases π<;>rfl
theorem A.ok_pv (x:PV) (π:List PE):(A.pv x).ok π↔x.ok π:=by
 cases π with
 | nil=>exact ⟨fun _=>PV.ok_nil _,fun _=>trivial⟩
 | cons q π=>exact Iff.rfl
theorem A.lift_st (xs:List PV) (π:List PE) (ok:(A.pv (.st xs)).ok π) :
  (A.st (xs.map A.pv)).ok π∧(A.st (xs.map A.pv)).off π=(A.pv (.st xs)).off π∧(π≠[]→(A.st (xs.map A.pv)).get π=(A.pv (.st xs)).get π):=by
 cases π with
 | nil=>exact ⟨trivial,rfl,fun h=>absurd rfl h⟩
 | cons q π =>
  cases q with
  | i j=>exact absurd ok (by simp[A.ok,PV.ok])
  | f j =>
   have ok':j < xs.length∧(xs.getD j .nilp).ok π:=by simpa [A.ok,PV.ok] using ok
   have e:=zCl xs j ok'.1
   refine ⟨?_,?_,fun _=>?_⟩
   ·simp only[A.ok,e,A.ok_pv]; exact ⟨by simpa using ok'.1,ok'.2⟩
   ·simp only[A.off,e,A.off_pv,PV.off,←List.map_take,zx9]
   ·simp only[A.get,e,A.get_pv,PV.get]
theorem A.set_st_keeps {fs:List A} {j:Nat} {z:A} {π0:List PE} (hj:j < fs.length) (h1:z.size=(fs.getD j .bad).size)
  (h3:∀ π v,zaO π0 v π=false→(fs.getD j .bad).ok π→z.ok π∧z.off π=(fs.getD j .bad).off π∧(v=true→M.arrLen (z.get π)=M.arrLen ((fs.getD j .bad).get π))) :
  (A.st (fs.set j z)).size=(A.st fs).size∧∀ π v,zaO (.f j :: π0) v π=false→(A.st fs).ok π →
   (A.st (fs.set j z)).ok π∧(A.st (fs.set j z)).off π=(A.st fs).off π∧(v=true→M.arrLen ((A.st (fs.set j z)).get π)=M.arrLen ((A.st fs).get π)):=by
 have hsz:=A.sizeL_set (xs:=fs) (j:=j) (z:=z) h1
 refine ⟨?_,fun π u hst hk=>?_⟩
 ·have:=hsz fs.length
  simp only[A.size]
  rwa [List.take_of_length_le (by simp),List.take_of_length_le (by simp)]at this
 ·cases π with
  | nil=>exact ⟨trivial,rfl,fun _=>rfl⟩
  | cons q π =>
   cases q with
   | i j=>simp[A.ok]at hk
   | f j' =>
    simp only[A.ok]at hk
    by_cases e:j=j'
    ·subst e
     have hst':zaO π0 u π=false:=by
      simp[zaO,zgd]at hst ⊢
      cases u<;>simpa using hst
     obtain ⟨g1,g2,g3⟩:=h3 π u hst' hk.2
     refine ⟨by simp only[A.ok]; exact ⟨by simpa using hk.1,by rw[zb6 _ _ _ _ hk.1]; exact g1⟩,?_,?_⟩
     ·simp only[A.off,hsz,zb6 _ _ _ _ hk.1,g2]
     ·simp only[A.get,zb6 _ _ _ _ hk.1]; exact g3
    ·refine ⟨by simp only[A.ok]; exact ⟨by simpa using hk.1,by rw[getD_set_ne _ _ _ _ _ e]; exact hk.2⟩,?_,?_⟩
     ·simp only[A.off,hsz,getD_set_ne _ _ _ _ _ e]
     ·intro _; simp only[A.get,getD_set_ne _ _ _ _ _ e]
theorem A.set_keeps:∀ (π0:List PE) {x y x':A},x.set π0 y=some x'→x.ok π0→y.size=(x.get π0).size →
  x'.size=x.size∧∀ π v,zaO π0 v π=false→x.ok π→x'.ok π∧x'.off π=x.off π∧(v=true→M.arrLen (x'.get π)=M.arrLen (x.get π))
 | [],x,y,x',h,_,hs=>by
  have:x'=y:=by cases x<;>simp[A.set]at h<;>exact h.symm
  subst this
  rw[A.get_nil]at hs
  refine ⟨hs,fun π v hst hok=>?_⟩
  cases v with
  | true =>
   simp[zaO,zgd]at hst
   rw[Nat.ble_eq_true_of_le (Nat.zero_le _)]at hst
   cases hst
  | false =>
   cases π with
   | nil=>exact ⟨A.ok_nil _,by rw[A.off_nil,A.off_nil],fun h=>by cases h⟩
   | cons pe π =>
    simp[zaO,zgd]at hst
    rw[show Nat.blt 0 (π.length+1)=true from Nat.ble_eq_true_of_le (by omega)]at hst
    cases hst
 | pe :: π0,x,y,x',h,hok,hs=>by
  by_cases hx:∃ fs,x=.st fs
  ·obtain ⟨fs,rfl⟩:=hx
   cases pe with
   | i j=>simp[A.ok]at hok
   | f j =>
    simp only[A.ok]at hok
    simp only[A.set,Option.map_eq_some_iff]at h
    obtain ⟨z,hz,rfl⟩:=h
    simp only[A.get]at hs
    obtain ⟨h1,h3⟩:=A.set_keeps π0 hz hok.2 hs
    exact A.set_st_keeps hok.1 h1 h3
  ·by_cases hx2:∃ q,x=.pv q
   ·obtain ⟨q,rfl⟩:=hx2
    have okq:q.ok (pe :: π0):=hok
    by_cases hy:∃ r,y=.pv r
    ·obtain ⟨r,rfl⟩:=hy
     have h:(q.set (pe :: π0) r).map A.pv=some x':=by simpa [A.set] using h
     simp only[Option.map_eq_some_iff]at h
     obtain ⟨q',hq,rfl⟩:=h
     rw[A.get_pv]at hs
     obtain ⟨h1,_,h3⟩:=PV.set_keeps (pe :: π0) hq okq hs
     refine ⟨h1,fun π v hst hk=>?_⟩
     obtain ⟨g1,g2,g3⟩:=h3 π v hst ((A.ok_pv _ _).1 hk)
     exact ⟨(A.ok_pv _ _).2 g1,by rw[A.off_pv,A.off_pv,g2],by rw[A.get_pv,A.get_pv]; exact g3⟩
    ·by_cases hq:∃ xs j,q=.st xs∧pe=.f j
     ·obtain ⟨xs,j,rfl,rfl⟩:=hq
      have ok':j < xs.length∧(xs.getD j .nilp).ok π0:=by simpa [A.ok,PV.ok] using hok
      have h:((A.pv (xs.getD j .nilp)).set π0 y).map (fun z=>A.st ((xs.map A.pv).set j z))=some x':=by
       cases y<;>first | (exact absurd ⟨_,rfl⟩ hy) | simpa [A.set] using h
      simp only[Option.map_eq_some_iff]at h
      obtain ⟨z,hz,rfl⟩:=h
      have e:=zCl xs j ok'.1
      have hs':y.size=((A.pv (xs.getD j .nilp)).get π0).size:=by rw[hs,A.get_pv,A.get_pv]; rfl
      obtain ⟨h1,h3⟩:=A.set_keeps π0 hz ((A.ok_pv _ _).2 ok'.2) hs'
      obtain ⟨k1,k2⟩:=A.set_st_keeps (fs:=xs.map A.pv) (j:=j) (z:=z) (π0:=π0) (by simpa using ok'.1) (by rw[e]; exact h1) (by rw[e]; exact h3)
      refine ⟨k1.trans (by simp[A.size,zx9,PV.size]),fun π v hst hk=>?_⟩
      obtain ⟨l1,l2,l3⟩:=A.lift_st xs π hk
      obtain ⟨g1,g2,g3⟩:=k2 π v hst l1
      refine ⟨g1,g2.trans l2,fun hv=>(g3 hv).trans ?_⟩
      by_cases hn:π=[]
      ·subst hn; rfl
      ·rw[l3 hn]
     ·exfalso
      cases y<;>first | (exact absurd ⟨_,rfl⟩ hy) | (cases q<;>cases pe<;>first | (exact absurd ⟨_,_,rfl,rfl⟩ hq) | simp[A.set]at h)
   ·exfalso
    cases x<;>first | (exact absurd ⟨_,rfl⟩ hx) | (exact absurd ⟨_,rfl⟩ hx2) | simp[A.ok]at hok
theorem RC.set_keeps {rc rc':RC} {π0:List PE} {y:PV} (h:rc.set π0 y=some rc') (hok:rc.ok π0) (hs:y.size=(rc.get π0).size) :
  rc'.len=rc.len∧rc'.sz=rc.sz∧∀ π v,zaO π0 v π=false→rc.ok π→rc'.ok π∧rc'.off π=rc.off π∧(v=true→M.arrLen (.pv (rc'.get π))=M.arrLen (.pv (rc.get π))):=by
 cases rc with
 | s k xs =>
  cases π0 with
  | nil=>simp[RC.ok]at hok
  | cons p π0 =>
   cases p with
   | f j=>simp[RC.ok]at hok
   | i j =>
    cases π0 with
    | cons _ _=>simp[RC.ok]at hok
    | nil =>
     have:∃ z,rc'=.s k (xs.set j z):=by
      cases y<;>simp[RC.set,Option.map_eq_some_iff]at h
      obtain ⟨z,_,rfl⟩:=h
      exact ⟨_,rfl⟩
     obtain ⟨z,rfl⟩:=this
     refine ⟨by simp[RC.len],rfl,fun π u hst hk=>?_⟩
     cases π with
     | nil=>simp[RC.ok]at hk
     | cons q π =>
      cases q with
      | f j=>simp[RC.ok]at hk
      | i j' =>
       cases π with
       | cons _ _=>simp[RC.ok]at hk
       | nil=>exact ⟨by simpa [RC.ok] using hk,rfl,fun _=>rfl⟩
 | p sz xs =>
  cases π0 with
  | nil=>simp[RC.ok]at hok
  | cons q π0 =>
   cases q with
   | f j=>simp[RC.ok]at hok
   | i j =>
    simp only[RC.ok]at hok
    simp only[RC.set,Option.map_eq_some_iff]at h
    obtain ⟨z,hz,rfl⟩:=h
    simp only[RC.get]at hs
    obtain ⟨h1,h2,h3⟩:=PV.set_keeps π0 hz hok.2 hs
    refine ⟨by simp[RC.len],rfl,fun π u hst hk=>?_⟩
    cases π with
    | nil=>simp[RC.ok]at hk
    | cons q π =>
     cases q with
     | f j=>simp[RC.ok]at hk
     | i j' =>
      simp only[RC.ok]at hk
      have hst':zaO π0 u π=false:=by
       simp[zaO,zgd]at hst ⊢
       cases u<;>simpa using hst
      by_cases e:j=j'
      ·subst e
       obtain ⟨g1,g2,g3⟩:=h3 π u hst' hk.2
       refine ⟨by simp only[RC.ok]; exact ⟨by simpa using hk.1,by rw[zb6 _ _ _ _ hk.1]; exact g1⟩,?_,?_⟩
       ·simp only[RC.off,zb6 _ _ _ _ hk.1,g2]
       ·simp only[RC.get,zb6 _ _ _ _ hk.1]; exact g3
      ·refine ⟨by simp only[RC.ok]; exact ⟨by simpa using hk.1,by rw[getD_set_ne _ _ _ _ _ e]; exact hk.2⟩,?_,?_⟩
       ·simp only[RC.off,getD_set_ne _ _ _ _ _ e]
       ·intro _; simp only[RC.get,getD_set_ne _ _ _ _ _ e]
def SameAt (b b':Blk) (v:Bool) (π:List PE):Prop :=
 b'.isRow=b.isRow∧(b.ok π→b'.ok π∧b'.off π=b.off π)∧(b.okv π→v=true→b'.okv π∧b'.off π=b.off π∧b'.arrLen π=b.arrLen π)
theorem SameAt.refl (b:Blk) (v:Bool) (π:List PE):SameAt b b v π:=⟨rfl,fun h=>⟨h,rfl⟩,fun h _=>⟨h,rfl,rfl⟩⟩
theorem Blk.set_keeps {b b':Blk} {π0:List PE} {y:A} (h:b.set π0 y=some b') (hok:b.ok π0) (hs:y.size=(b.get π0).size) :
  ∀ π v,zaO π0 v π=false→SameAt b b' v π:=by
 intro π v hst
 cases b with
 | box c =>
  simp only[Blk.set,Option.map_eq_some_iff]at h
  obtain ⟨c',hc,rfl⟩:=h
  obtain ⟨_,h3⟩:=A.set_keeps π0 hc hok hs
  refine ⟨rfl,fun hk=>?_,fun hk hv=>?_⟩
  ·obtain ⟨g1,g2,_⟩:=h3 π v hst hk
   exact ⟨g1,g2⟩
  ·have hk':c.ok π:=by cases π<;>exact hk
   obtain ⟨g1,g2,g3⟩:=h3 π v hst hk'
   refine ⟨by cases π<;>exact g1,g2,?_⟩
   cases π<;>exact g3 hv
 | row rc ex =>
  cases y<;>simp[Blk.set,Option.map_eq_some_iff]at h
  obtain ⟨rc',hc,rfl⟩:=h
  obtain ⟨e1,e2,h3⟩:=RC.set_keeps hc hok hs
  refine ⟨rfl,fun hk=>?_,fun hk hv=>?_⟩
  ·obtain ⟨g1,g2,_⟩:=h3 π v hst hk
   exact ⟨g1,g2⟩
  ·cases π with
   | nil =>
    have o0:∀ r:RC,r.off []=0:=fun r=>by cases r<;>rfl
    exact ⟨trivial,(o0 rc').trans (o0 rc).symm,by simp[Blk.arrLen,e1,e2]⟩
   | cons p π =>
    obtain ⟨g1,g2,g3⟩:=h3 (p :: π) v hst hk
    exact ⟨g1,g2,g3 hv⟩
 | map kv=>simp[Blk.set]at h
end Go.Proofs.YtnolgfdjcipmmaaDoor.M
namespace Go.Proofs.YtnolgfdjcipmmaaDoor.M
open Go
def zbT:Value→Option Addr
 | .pointer a=>a
 | .slice a _ _=>a
 | _=>none
def pack (agg:Bool) (vs:List Value):Value:=if agg then .agg vs.toArray else vs.headD undef
def RC.sub (off len:Nat):RC→RC
 | .s k xs=>.s k ((xs.drop off).take len)
 | .p sz xs=>.p sz ((xs.drop off).take len)
def RC.arr (off len:Nat):RC→PV
 | .s k xs=>.arr k len (Vector.ofFn fun i=>xs.getD (off+i) k.zero)
 | .p sz xs=>.ar sz ((xs.drop off).take len)
def RC.sl:RC→PV
 | .s k xs=>.sl k xs
 | .p sz xs=>.sp sz xs
def A.elems:A→Option RC
 | .pv (.arr k _ v)=>some (.s k v.toList)
 | .pv (.ar sz xs)=>some (.p sz xs)
 | _=>none
def Blk.elems:Blk→List PE→Option RC
 | .row rc _,[]=>some rc
 | b,π=>(b.get π).elems
theorem A.elems_len (x:A):M.arrLen x=x.elems.map fun r=>(r.len,r.sz):=by
 cases x with
 | pv x=>cases x<;>simp[M.arrLen,A.elems,RC.len,RC.sz]
 | _=>rfl
theorem Blk.elems_len (b:Blk) (π:List PE):b.arrLen π=(b.elems π).map fun r=>(r.len,r.sz):=by
 cases b with
 | box c=>simp only[Blk.arrLen,Blk.elems]; exact A.elems_len _
 | row rc ex =>
  cases π with
  | nil=>rfl
  | cons q π=>simp only[Blk.arrLen,Blk.elems]; exact A.elems_len _
 | map kv=>simp only[Blk.arrLen,Blk.elems]; exact A.elems_len _
mutual
inductive RepC (β:Nat→Value) (S:Nat→Prop) (h:Array Obj) (L:Nat→Option Blk):A→List Value→Prop
 | pv {x vs}:RepPV S h x vs→RepC β S h L (.pv x) vs
 | st {xs vs}:RepCL β S h L xs vs→RepC β S h L (.st xs) vs
 | p {n π blk b o}:L n=some blk→blk.ok π→zbT (β n)=some ⟨b,o,none⟩→RepC β S h L (.p n π) [.pointer (some ⟨b,o+blk.off π,none⟩)]
 | pr {n π off len blk b o N sz}:L n=some blk→blk.okv π→zbT (β n)=some ⟨b,o,none⟩→blk.arrLen π=some (N,sz)→off+len≤N→0 < len →
   RepC β S h L (.pr n π off len) [.pointer (some ⟨b,o+blk.off π+off*sz,none⟩)]
 | rp {x vs b o}:S b→CellsAt h b o vs→RepPV S h x vs→RepC β S h L (.rp x) [.pointer (some ⟨b,o,none⟩)]
 | o {n blk}:L n=some blk→blk.isRow=true→RepC β S h L (.o n) [β n]
 | vw {n π off len cap blk N sz cp a}:L n=some blk→blk.okv π→blk.arrLen π=some (N,sz)→off+len≤N→len≤cp →
   (∀ c,cap=some c→cp=c∧off+c≤N)→(cp=0∨∃ b o,zbT (β n)=some ⟨b,o,none⟩∧a=some ⟨b,o+blk.off π+off*sz,none⟩)→RepC β S h L (.vw n π off len cap) [.slice a len cp]
 | tup {xs vs}:RepT β S h L xs vs→RepC β S h L (.tup xs) [.tuple vs.toArray]
 | fn {f xs vs}:RepT β S h L xs vs→RepC β S h L (.fn f xs) [.func (.func f) #[] vs.toArray]
 | und:RepC β S h L .und [undef]
 | bad {v}:RepC β S h L .bad [v]
inductive RepCL (β:Nat→Value) (S:Nat→Prop) (h:Array Obj) (L:Nat→Option Blk):List A→List Value→Prop
 | nil:RepCL β S h L [] []
 | cons {x vs xs us}:RepC β S h L x vs→RepCL β S h L xs us→RepCL β S h L (x :: xs) (vs++us)
inductive RepT (β:Nat→Value) (S:Nat→Prop) (h:Array Obj) (L:Nat→Option Blk):List A→List Value→Prop
 | nil:RepT β S h L [] []
 | cons {x vs xs us}:RepC β S h L x vs→RepT β S h L xs us→RepT β S h L (x :: xs) (pack x.isAgg vs :: us)
end
def RepA (β:Nat→Value) (S:Nat→Prop) (h:Array Obj) (L:Nat→Option Blk) (x:A) (v:Value):Prop :=
 ∃ vs,RepC β S h L x vs∧v=pack x.isAgg vs
section
variable {β β':Nat→Value} {S S':Nat→Prop} {h h':Array Obj} {L L':Nat→Option Blk}
structure Keeps (β β':Nat→Value) (S S':Nat→Prop) (h h':Array Obj) (L L':Nat→Option Blk) (m:Bool→Nat→List PE→Bool):Prop where
 s:∀ b,S b→S' b
 h:∀ b,S b→h'[b]?=h[b]?
 l:∀ v n π,m v n π=true→∀ blk,L n=some blk→β' n=β n∧∃ blk',L' n=some blk'∧SameAt blk blk' v π
mutual
theorem RepC.mono {m:Bool→Nat→List PE→Bool} (K:Keeps β β' S S' h h' L L' m):∀ {x vs},RepC β S h L x vs→x.all m=true→RepC β' S' h' L' x vs
 | _,_,.pv r,_=>.pv (r.mono K.s K.h)
 | _,_,.st r,e=>.st (RepCL.mono K r (by simpa [A.all] using e))
 | _,_,.p (n:=n) (π:=π) e1 e2 e3,e=>by
  obtain ⟨q1,blk',q2,q3,q4,_⟩:=K.l false n π (by simpa [A.all] using e) _ e1
  rw[←(q4 e2).2]
  exact .p q2 (q4 e2).1 (q1 ▸ e3)
 | _,_,.pr (n:=n) (π:=π) e1 e2 e3 e4 e5 e6,e=>by
  obtain ⟨q1,blk',q2,q3,_,q4⟩:=K.l true n π (by simpa [A.all] using e) _ e1
  obtain ⟨g1,g2,g3⟩:=q4 e2 rfl
  rw[←g2]
  exact .pr q2 g1 (q1 ▸ e3) (g3.trans e4) e5 e6
 | _,_,.rp s1 s2 s3,_=>.rp (K.s _ s1) (s2.mono (K.h _ s1)) (s3.mono K.s K.h)
 | _,_,.o (n:=n) e1 e2,e=>by
  obtain ⟨q1,blk',q2,q3,_⟩:=K.l true n [] (by simpa [A.all] using e) _ e1
  rw[←q1]
  exact .o q2 (q3.trans e2)
 | _,_,.vw (n:=n) (π:=π) e1 e2 e4 e5 e6 e7 e8,e=>by
  obtain ⟨q1,blk',q2,q3,_,q4⟩:=K.l true n π (by simpa [A.all] using e) _ e1
  obtain ⟨g1,g2,g3⟩:=q4 e2 rfl
  rw[←g2,←q1]at e8
  exact .vw q2 g1 (g3.trans e4) e5 e6 e7 e8
 | _,_,.tup r,e=>.tup (RepT.mono K r (by simpa [A.all] using e))
 | _,_,.fn r,e=>.fn (RepT.mono K r (by simpa [A.all] using e))
 | _,_,.und,_=>.und
 | _,_,.bad,_=>.bad
theorem RepCL.mono {m:Bool→Nat→List PE→Bool} (K:Keeps β β' S S' h h' L L' m):∀ {xs vs},RepCL β S h L xs vs→A.allL m xs=true→RepCL β' S' h' L' xs vs
 | _,_,.nil,_=>.nil
 | _,_,.cons a r,e=>by
  simp only[A.allL,Bool.and_eq_true]at e
  exact .cons (RepC.mono K a e.1) (RepCL.mono K r e.2)
theorem RepT.mono {m:Bool→Nat→List PE→Bool} (K:Keeps β β' S S' h h' L L' m):∀ {xs vs},RepT β S h L xs vs→A.allL m xs=true→RepT β' S' h' L' xs vs
 | _,_,.nil,_=>.nil
 | _,_,.cons a r,e=>by
  simp only[A.allL,Bool.and_eq_true]at e
  exact .cons (RepC.mono K a e.1) (RepT.mono K r e.2)
end
theorem RepA.mono {m:Bool→Nat→List PE→Bool} (K:Keeps β β' S S' h h' L L' m) {x:A} {v:Value} (r:RepA β S h L x v) (e:x.all m=true):RepA β' S' h' L' x v :=
 let ⟨vs,r1,r2⟩:=r
 ⟨vs,r1.mono K e,r2⟩
mutual
theorem RepC.size:∀ {x vs},RepC β S h L x vs→vs.length=x.size
 | _,_,.pv r=>r.size
 | _,_,.st r=>by rw[A.size]; exact RepCL.size r
 | _,_,.p ..=>rfl
 | _,_,.pr ..=>rfl
 | _,_,.rp ..=>rfl
 | _,_,.o ..=>rfl
 | _,_,.vw ..=>rfl
 | _,_,.tup _=>rfl
 | _,_,.fn _=>rfl
 | _,_,.und=>rfl
 | _,_,.bad=>rfl
theorem RepCL.size:∀ {xs vs},RepCL β S h L xs vs→vs.length=A.sizeL xs
 | _,_,.nil=>rfl
 | _,_,.cons a r=>by rw[List.length_append,RepC.size a,RepCL.size r,A.sizeL]
end
theorem RepL.toCL:∀ {xs vs},RepL S h xs vs→RepCL β S h L (xs.map A.pv) vs
 | _,_,.nil=>.nil
 | _,_,.cons a r=>.cons (.pv a) r.toCL
theorem RepCL.part:∀ {xs vs},RepCL β S h L xs vs→∀ j,j < xs.length→∃ X us B,vs=X++us++B∧X.length=A.sizeL (xs.take j)∧RepC β S h L (xs.getD j .bad) us ∧
  ∀ y us',RepC β S h L y us'→RepCL β S h L (xs.set j y) (X++us' ++ B)
 | _,_,.nil,j,hj=>by simp at hj
 | _,_,.cons (x:=x) (vs:=vs) (xs:=xs) (us:=us) a r,0,_=>by
  refine ⟨[],vs,us,rfl,rfl,by simpa using a,fun y us' hy=>?_⟩
  simpa using RepCL.cons hy r
 | _,_,.cons (x:=x) (vs:=vs) (xs:=xs) (us:=us) a r,j+1,hj=>by
  obtain ⟨X,u,B,e1,e2,e3,e4⟩:=r.part j (by simpa using hj)
  refine ⟨vs++X,u,B,by simp[e1],by simp[A.sizeL,e2,RepC.size a],by simpa using e3,fun y us' hy=>?_⟩
  have:=RepCL.cons a (e4 y us' hy)
  simpa using this
theorem RepC.part:∀ (π:List PE) {x vs},RepC β S h L x vs→x.ok π→∃ X us B,vs=X++us++B∧X.length=x.off π∧RepC β S h L (x.get π) us ∧
  ∀ y us' x',RepC β S h L y us'→y.size=(x.get π).size→x.set π y=some x'→RepC β S h L x' (X++us' ++ B)
 | [],x,vs,r,_=>by
  refine ⟨[],vs,[],by simp,by rw[A.off_nil]; rfl,by rw[A.get_nil]; exact r,fun y us' x' hy _ hx=>?_⟩
  have:x'=y:=by cases x<;>simp[A.set]at hx<;>exact hx.symm
  subst this
  simpa using hy
 | pe :: π,_,_,.st (xs:=fs) (vs:=vs) r,ok=>by
  cases pe with
  | i j=>simp[A.ok]at ok
  | f j =>
   simp only[A.ok]at ok
   obtain ⟨X,us,B,e1,e2,e3,e4⟩:=r.part j ok.1
   obtain ⟨X',us',B',d1,d2,d3,d4⟩:=RepC.part π e3 ok.2
   refine ⟨X++X',us',B' ++ B,by simp[e1,d1],by simp[A.off,e2,d2],by simpa [A.get] using d3,fun y u x' hy hs hx=>?_⟩
   simp only[A.set,Option.map_eq_some_iff]at hx
   obtain ⟨z,hz,rfl⟩:=hx
   have:=e4 z _ (d4 y u z hy (by simpa [A.get] using hs) hz)
   simpa using RepC.st this
 | pe :: π,_,_,.pv (x:=x) (vs:=vs) r,ok=>by
  obtain ⟨X,us,B,e1,e2,e3,e4⟩:=r.part (pe :: π) ok
  refine ⟨X,us,B,e1,e2,.pv e3,fun y u x' hy hs hx=>?_⟩
  by_cases hp:∃ q,y=.pv q
  ·obtain ⟨q,rfl⟩:=hp
   have hx:(x.set (pe :: π) q).map A.pv=some x':=by simpa [A.set] using hx
   simp only[Option.map_eq_some_iff]at hx
   obtain ⟨z,hz,rfl⟩:=hx
   cases hy with
   | pv hy=>exact .pv (e4 q u z hy hs hz)
  ·cases r with
   | st r =>
    rename_i xs
    cases pe with
    | i j=>simp[A.ok,PV.ok]at ok
    | f j =>
     have ok':j < xs.length∧(xs.getD j .nilp).ok π:=by simpa [A.ok,PV.ok] using ok
     have hx:((A.pv (xs.getD j .nilp)).set π y).map (fun z=>A.st ((xs.map A.pv).set j z))=some x':=by
      cases y<;>first | (exact absurd ⟨_,rfl⟩ hp) | simpa [A.set] using hx
     simp only[Option.map_eq_some_iff]at hx
     obtain ⟨z,hz,rfl⟩:=hx
     obtain ⟨A2,us2,B2,f1,f2,f3,f4⟩:=(r.toCL (β:=β) (L:=L)).part j (by simpa using ok'.1)
     rw[zCl xs j ok'.1]at f3
     obtain ⟨A3,us3,B3,g1,g2,g3,g4⟩:=RepC.part π f3 ((A.ok_pv _ _).2 ok'.2)
     have hs':y.size=((A.pv (xs.getD j .nilp)).get π).size:=by rw[hs,A.get_pv,A.get_pv]; rfl
     have:=RepC.st (f4 z _ (g4 y u z hy hs' hz))
     have hA:X=A2++A3:=by
      have hl:X.length=(A2++A3).length:=by
       rw[e2,List.length_append,f2,g2,A.off_pv,←List.map_take,zx9]; rfl
      have h1:vs.take X.length=X:=by rw[e1]; simp
      have h2:vs.take (A2++A3).length=A2++A3:=by rw[f1,g1]; simp[List.take_append,List.take_of_length_le]
      rw[←h1,←h2,hl]
     have hB:B=B3++B2:=by
      have hu:us.length=us3.length:=by
       rw[RepPV.size e3,RepC.size g3,A.get_pv]; rfl
      have h1:vs.drop (X++us).length=B:=by rw[e1]; simp
      have h2:vs.drop (A2++A3++us3).length=B3++B2:=by
       rw[f1,g1]
       have:A2++(A3++us3++B3)++B2=(A2++A3++us3)++(B3++B2):=by simp
       rw[this,List.drop_left]
      rw[←h1,←h2,List.length_append,List.length_append,hA,hu]
     rw[hA,hB]
     simpa using this
   | _ =>
    exfalso
    cases y<;>first | (exact absurd ⟨_,rfl⟩ hp) | simp[A.set]at hx
 | pe :: π,_,_,.p ..,ok=>by simp[A.ok]at ok
 | pe :: π,_,_,.pr ..,ok=>by simp[A.ok]at ok
 | pe :: π,_,_,.rp ..,ok=>by simp[A.ok]at ok
 | pe :: π,_,_,.o ..,ok=>by simp[A.ok]at ok
 | pe :: π,_,_,.vw ..,ok=>by simp[A.ok]at ok
 | pe :: π,_,_,.tup _,ok=>by simp[A.ok]at ok
 | pe :: π,_,_,.fn _,ok=>by simp[A.ok]at ok
 | pe :: π,_,_,.und,ok=>by simp[A.ok]at ok
 | pe :: π,_,_,.bad,ok=>by simp[A.ok]at ok
inductive RepRC (S:Nat→Prop) (h:Array Obj):RC→List Value→Prop
 | s (k:EK) (xs:List k.T):RepRC S h (.s k xs) (xs.map k.enc)
 | p {sz xs vs}:(∀ x ∈ xs,x.size=sz)→RepL S h xs vs→RepRC S h (.p sz xs) vs
theorem RepRC.mono (hS:∀ b,S b→S' b) (hh:∀ b,S b→h'[b]?=h[b]?) {rc vs} (r:RepRC S h rc vs):RepRC S' h' rc vs:=by
 cases r with
 | s k xs=>exact .s k xs
 | p e r=>exact .p e (r.mono hS hh)
theorem RepRC.size {rc vs} (r:RepRC S h rc vs):vs.length=rc.len*rc.sz:=by
 cases r with
 | s k xs=>simp[RC.len,RC.sz]
 | p e r=>rw[r.size,zlv e]; rfl
theorem RepRC.part {π:List PE} {rc vs} (r:RepRC S h rc vs) (ok:rc.ok π):∃ X us B,vs=X++us++B∧X.length=rc.off π∧RepPV S h (rc.get π) us ∧
  ∀ y us' rc',RepPV S h y us'→y.size=(rc.get π).size→rc.set π y=some rc'→RepRC S h rc' (X++us' ++ B):=by
 cases r with
 | s k xs =>
  cases π with
  | nil=>simp[RC.ok]at ok
  | cons pe π =>
   cases pe with
   | f j=>simp[RC.ok]at ok
   | i j =>
    cases π with
    | cons _ _=>simp[RC.ok]at ok
    | nil =>
     simp only[RC.ok]at ok
     refine ⟨(xs.take j).map k.enc,[k.enc (xs.getD j k.zero)],(xs.drop (j+1)).map k.enc,?_,by simp[RC.off]; omega,.sc _ _,fun y us' x' hy hs hx=>?_⟩
     ·have:xs=xs.take j++[xs.getD j k.zero]++xs.drop (j+1):=by
       rw[zdS _ _ _ ok,List.append_assoc,List.singleton_append,List.getElem_cons_drop,List.take_append_drop]
      calc xs.map k.enc=(xs.take j++[xs.getD j k.zero]++xs.drop (j+1)).map k.enc:=by rw[←this]
       _=_:=by simp
     ·cases hy with
      | sc k' y =>
       simp only[RC.set,Option.map_eq_some_iff]at hx
       obtain ⟨z,hz,rfl⟩:=hx
       have hk:k'=k∧HEq z y:=by
        cases k'<;>cases k<;>simp[EK.cast]at hz<;>subst hz<;>exact ⟨rfl,HEq.rfl⟩
       obtain ⟨rfl,hzy⟩:=hk
       have hzy:=eq_of_heq hzy
       subst hzy
       have:(xs.set j z).map k'.enc=(xs.take j).map k'.enc++[k'.enc z]++(xs.drop (j+1)).map k'.enc:=by
        rw[List.set_eq_take_append_cons_drop,if_pos ok]
        simp
       rw[←this]
       exact .s _ _
      | _=>simp[RC.set]at hx
 | p e r =>
  rename_i sz xs
  cases π with
  | nil=>simp[RC.ok]at ok
  | cons pe π =>
   cases pe with
   | f j=>simp[RC.ok]at ok
   | i j =>
    obtain ⟨X,us,B,e1,e2,e3,e4⟩:=(RepPV.ar e r).part (.i j :: π) (by simpa [PV.ok,RC.ok] using ok)
    refine ⟨X,us,B,e1,e2,e3,fun y u rc' hy hs hx=>?_⟩
    simp only[RC.set,Option.map_eq_some_iff]at hx
    obtain ⟨z,hz,rfl⟩:=hx
    have:=e4 y u (.ar sz (xs.set j z)) hy hs (by simp only[PV.set,hz]; rfl)
    cases this with
    | ar q1 q2=>exact .p q1 q2
end
end Go.Proofs.YtnolgfdjcipmmaaDoor.M
namespace Go.Proofs.YtnolgfdjcipmmaaDoor.M
open Go Go.RowKit
def fp:Value→Nat→Prop
 | .pointer (some a),k=>a.block=k
 | .slice (some a) _ cap,k=>cap≠0∧a.block=k
 | .map (some r),k=>r=k
 | _,_=>False
inductive RepM (S:Nat→Prop) (h:Array Obj):List (PV × PV)→List MapEntry→Prop
 | nil:RepM S h [] []
 | cons {k v:PV} {cs vs:List Value} {e:MapEntry} {kv:List (PV × PV)} {es:List MapEntry}:RepPV S h k cs→RepPV S h v vs→e.key=pack k.isAgg cs→e.val=pack v.isAgg vs→RepM S h kv es→RepM S h ((k,v) :: kv) (e :: es)
theorem RepM.mono {S S':Nat→Prop} {h h':Array Obj} (hS:∀ b,S b→S' b) (hh:∀ b,S b→h'[b]?=h[b]?):∀ {kv es},RepM S h kv es→RepM S' h' kv es
 | _,_,.nil=>.nil
 | _,_,.cons a b c d r=>.cons (a.mono hS hh) (b.mono hS hh) c d (r.mono hS hh)
def Born (clock:Nat) (es:List MapEntry):Prop:=(∀ e ∈ es,e.born < clock)∧es.Pairwise fun a b=>a.born < b.born
def BlkOK (β:Nat→Value) (S:Nat→Prop) (h:Array Obj) (L:Nat→Option Blk) (n:Nat):Blk→Prop
 | .box c=>∃ b cs T,β n=.pointer (some ⟨b,0,none⟩)∧h[b]?=some (.cells cs T (0,0))∧RepC β S h L c cs.toList
 | .row rc ex=>∃ a cap,β n=.slice a rc.len cap∧rc.len≤cap∧(ex=true→cap=rc.len) ∧
   (cap=0∨∃ b o cs T,a=some ⟨b,o,none⟩∧h[b]?=some (.cells cs T (0,0))∧o+cap*rc.sz≤cs.size ∧
    ∃ X vs Y,cs.toList=X++vs++Y∧X.length=o∧RepRC S h rc vs)
 | .map kv=>∃ r es clock,β n=.map (some r)∧h[r]?=some (.map es clock)∧RepM S h kv es.toList∧Born clock es.toList
def Blk.all (m:Bool→Nat→List PE→Bool):Blk→Bool
 | .box c=>c.all m
 | .row _ _=>true
 | .map _=>true
structure MS (β:Nat→Value) (S:Nat→Prop) (h:Array Obj) (N0:Nat) (F:Nat→Prop) (L:Nat→Option Blk):Prop where
 blk:∀ n b,L n=some b→BlkOK β S h L n b
 own:∀ n b,L n=some b→∀ k,fp (β n) k→¬ S k∧k < h.size∧(N0≤k∨F k)
 sep:∀ n m,n≠m→(L n).isSome=true→(L m).isSome=true→∀ k,fp (β n) k→¬ fp (β m) k
 bound:∀ k,S k→k < h.size
section
variable {β β':Nat→Value} {S S':Nat→Prop} {h h':Array Obj} {L L':Nat→Option Blk} {N0:Nat} {F:Nat→Prop}
theorem BlkOK.mono {m:Bool→Nat→List PE→Bool} (K:Keeps β β' S S' h h' L L' m) {n:Nat} {b:Blk} (e:β' n=β n) (he:∀ k,fp (β n) k→h'[k]?=h[k]?)
  (ha:b.all m=true) (o:BlkOK β S h L n b):BlkOK β' S' h' L' n b:=by
 cases b with
 | box c =>
  obtain ⟨b,cs,T,o1,o2,o3⟩:=o
  exact ⟨b,cs,T,e.trans o1,(he b (by rw[o1]; rfl)).trans o2,o3.mono K ha⟩
 | row rc ex =>
  obtain ⟨a,cap,o1,o2,o3,o4⟩:=o
  refine ⟨a,cap,e.trans o1,o2,o3,?_⟩
  rcases o4 with o4 | ⟨b,o,cs,T,q1,q2,q3,X,vs,Y,q4,q5,q6⟩
  ·exact .inl o4
  ·by_cases hc:cap=0
   ·exact .inl hc
   ·exact .inr ⟨b,o,cs,T,q1,(he b (by rw[o1,q1]; exact ⟨hc,rfl⟩)).trans q2,q3,X,vs,Y,q4,q5,q6.mono K.s K.h⟩
 | map kv =>
  obtain ⟨r,es,clock,o1,o2,o3,o4⟩:=o
  exact ⟨r,es,clock,e.trans o1,(he r (by rw[o1]; rfl)).trans o2,o3.mono K.s K.h,o4⟩
theorem MS.step {m:Bool→Nat→List PE→Bool} (M:MS β S h N0 F L) (K:Keeps β β' S S' h h' L L' m) (T:Nat→Prop)
  (hsz:h.size≤h'.size)
  (old:∀ n b,L' n=some b→¬ T n→L n=some b∧β' n=β n∧b.all m=true∧∀ k,fp (β n) k→h'[k]?=h[k]?)
  (new:∀ n b,L' n=some b→T n→BlkOK β' S' h' L' n b∧∀ k,fp (β' n) k→k < h'.size∧(N0≤k∨F k) ∧
   (∀ n' b',L' n'=some b'→n'≠n→¬ fp (β' n') k))
  (s':∀ k,S' k→k < h'.size∧∀ n b,L' n=some b→¬ fp (β' n) k) :
  MS β' S' h' N0 F L' where
 blk n b hb:=by
  by_cases ht:T n
  ·exact (new n b hb ht).1
  ·obtain ⟨q1,q2,q3,q4⟩:=old n b hb ht
   exact (M.blk n b q1).mono K q2 q4 q3
 own n b hb k hk:=by
  refine ⟨fun hs=>(s' k hs).2 n b hb hk,?_⟩
  by_cases ht:T n
  ·have:=(new n b hb ht).2 k hk
   exact ⟨this.1,this.2.1⟩
  ·obtain ⟨q1,q2,q3,q4⟩:=old n b hb ht
   have:=M.own n b q1 k (q2 ▸ hk)
   exact ⟨Nat.lt_of_lt_of_le this.2.1 hsz,this.2.2⟩
 sep n n' hne h1 h2 k hk:=by
  obtain ⟨b,hb⟩:=Option.isSome_iff_exists.1 h1
  obtain ⟨b',hb'⟩:=Option.isSome_iff_exists.1 h2
  by_cases ht:T n
  ·exact ((new n b hb ht).2 k hk).2.2 n' b' hb' (Ne.symm hne)
  ·by_cases ht':T n'
   ·intro hk'
    exact ((new n' b' hb' ht').2 k hk').2.2 n b hb hne hk
   ·obtain ⟨q1,q2,_,_⟩:=old n b hb ht
    obtain ⟨p1,p2,_,_⟩:=old n' b' hb' ht'
    rw[q2]at hk
    rw[p2]
    exact M.sep n n' hne (by rw[q1]; rfl) (by rw[p1]; rfl) k hk
 bound k hk:=(s' k hk).1
end
structure St where
 E:List (Nat × A)
 L:List (Nat × Blk)
def lk {α:Type}:List (Nat × α)→Nat→Option α
 | [],_=>none
 | (m,x) :: r,n=>bif Nat.beq m n then some x else lk r n
theorem zaD {α:Type} (m:Nat) (x:α) (r:List (Nat × α)) (n:Nat):lk ((m,x) :: r) n=if m=n then some x else lk r n:=by
 simp only[lk]
 by_cases h:m=n
 ·subst h; simp
 ·rw[if_neg h]
  have:Nat.beq m n=false:=by
   cases e:Nat.beq m n with
   | false=>rfl
   | true=>exact absurd (Nat.eq_of_beq_eq_true e) h
  rw[this]; rfl
structure Wk where
 w0:World
 F:Nat→Prop
 S0:Nat→Prop
 G:Nat→Option PV
 nt:Nat
 np:Nat:=0
 par:Nat→Value:=fun _=>undef
 nd:Bool:=false
def zfa (D:Nat):Deferred:={ target:=.collected D,args:=#[] }
def DefOK (S:Nat→Prop) (h:Array Obj) (N0:Nat) (ds:List Deferred):Prop:=∃ Ds:List Nat,ds=Ds.map zfa∧Ds.Nodup∧∀ D ∈ Ds,S D∧N0≤D∧h[D]?=some (.deferred (some []))
theorem DefOK.nil {S:Nat→Prop} {h:Array Obj} {N0:Nat}:DefOK S h N0 []:=⟨[],rfl,.nil,fun _ h=>by cases h⟩
theorem DefOK.mono {S S':Nat→Prop} {h h':Array Obj} {N0:Nat} {ds:List Deferred} (d:DefOK S h N0 ds) (hs:∀ b,S b→S' b) (hh:∀ b,S b→h'[b]?=h[b]?):DefOK S' h' N0 ds:=by
 obtain ⟨Ds,e,n,q⟩:=d
 exact ⟨Ds,e,n,fun D hD=>⟨hs _ (q D hD).1,(q D hD).2.1,(hh _ (q D hD).1).trans (q D hD).2.2⟩⟩
structure Rl (k:Wk) (β:Nat→Value) (S:Nat→Prop) (E:List (Nat × A)) (L:Nat→Option Blk) (a:Act) (w:World):Prop where
 mem:MS β S w.heap k.w0.heap.size k.F L
 env:∀ t x,(t,x) ∈ E→RepA β S w.heap L x (a.tmps.getD t undef)
 glob:∀ g x,k.G g=some x→S g∧∃ vs,RepPV S w.heap x vs∧CellsAt w.heap g 0 vs
 keep:∀ b,b < k.w0.heap.size→¬ k.F b→w.heap[b]?=k.w0.heap[b]?
 size:k.w0.heap.size≤w.heap.size
 s0:∀ b,k.S0 b→S b
 sg:∀ b,S b→k.S0 b∨k.w0.heap.size≤b∨k.F b
 os:w.os=k.w0.os
 tape:w.tape=k.w0.tape
 output:w.output=k.w0.output
 nt:a.tmps.size=k.nt
 defers:DefOK S w.heap k.w0.heap.size a.defers
 nd:k.nd=true→a.defers=[]
 par:∀ t,t < k.np→a.tmps.getD t undef=k.par t
section
variable {k:Wk} {β β':Nat→Value} {S S':Nat→Prop} {E:List (Nat × A)} {L L':Nat→Option Blk} {a:Act} {w w':World}
theorem zrb (a:Act) (d:Nat) (v:Value) (t:Nat) (hd:d < a.tmps.size):(a.put (some d) v).tmps.getD t undef=if d=t then v else a.tmps.getD t undef:=by
 simp only[Act.put,Array.getD_eq_getD_getElem?,Array.getElem?_setIfInBounds]
 by_cases e:d=t
 ·subst e; simp[hd]
 ·simp[e]
theorem Rl.put (R:Rl k β S E L a w) {d:Nat} {x:A} {v:Value} (hp:k.np≤d) (hd:d < k.nt) (hx:RepA β S w.heap L x v) :
  Rl k β S ((d,x) :: E.filter (fun p=>!Nat.beq p.1 d)) L (a.put (some d) v) w:=by
 have hd':d < a.tmps.size:=by rw[R.nt]; exact hd
 refine { R with env:=fun t y hy=>?_,nt:=by simp[Act.put,R.nt],defers:=R.defers,nd:=R.nd,par:=fun t ht=>?_ }
 case refine_2=>rw[zrb a d v t hd',if_neg (by omega)]; exact R.par t ht
 rw[zrb a d v t hd']
 rcases List.mem_cons.1 hy with hy | hy
 ·cases hy
  rw[if_pos rfl]; exact hx
 ·rw[List.mem_filter]at hy
  have hne:d≠t:=by
   intro e
   subst e
   simp at hy
  rw[if_neg hne]
  exact R.env t y hy.1
theorem Rl.world {m:Bool→Nat→List PE→Bool} (R:Rl k β S E L a w) (K:Keeps β β' S S' w.heap w'.heap L L' m) (M:MS β' S' w'.heap k.w0.heap.size k.F L')
  (hsz:w.heap.size≤w'.heap.size) (hk:∀ b,b < k.w0.heap.size→¬ k.F b→w'.heap[b]?=w.heap[b]?)
  (hsg:∀ b,S' b→S b∨k.w0.heap.size≤b∨k.F b) (hos:w'.os=w.os) (ht:w'.tape=w.tape) (ho:w'.output=w.output) :
  Rl k β' S' (E.filter fun p=>p.2.all m) L' a w' where
 mem:=M
 env t x hx:=by
  rw[List.mem_filter]at hx
  exact (R.env t x hx.1).mono K hx.2
 glob g x hg:=by
  obtain ⟨h1,vs,h2,h3⟩:=R.glob g x hg
  exact ⟨K.s _ h1,vs,h2.mono K.s K.h,h3.mono (K.h _ h1)⟩
 keep b hb hf:=(hk b hb hf).trans (R.keep b hb hf)
 size:=Nat.le_trans R.size hsz
 s0 b hb:=K.s _ (R.s0 b hb)
 sg b hb:=by
  rcases hsg b hb with h | h
  ·exact R.sg b h
  ·exact .inr h
 os:=hos.trans R.os
 tape:=ht.trans R.tape
 output:=ho.trans R.output
 nt:=R.nt
 defers:=R.defers.mono K.s K.h
 nd:=R.nd
 par:=R.par
theorem Rl.sub (R:Rl k β S E L a w) {E':List (Nat × A)} (h:∀ p ∈ E',p ∈ E):Rl k β S E' L a w :=
 {R with env:=fun t x hx=>R.env t x (h _ hx) }
end
end Go.Proofs.YtnolgfdjcipmmaaDoor.M
namespace Go.Proofs.YtnolgfdjcipmmaaDoor.M
open Go
section
variable (P:Program)
def szT (t:TypeId):Option Nat:=(P.info? t).map (·.size)
def aggT (t:TypeId):Bool :=
 match P.underlying t with
 | some (.struct _) | some (.array _ _)=>true
 | _=>false
def zpV:TypeDesc→Option EK
 | .bool=>some .b
 | .int .u8=>some .u8 | .int .u16=>some .u16 | .int .u32=>some .u32 | .int .u64=>some .u64 | .int .i64=>some .i
 | _=>none
def ekT (t:TypeId):Option EK:=(P.underlying t).bind zpV
def zF5:Nat→TypeId→Option PV
 | 0,_=>none
 | d+1,t =>
  match P.underlying t with
  | some (.array n e) =>
   match ekT P e with
   | some k=>some (.arr k n (Vector.replicate n k.zero))
   | none=>(zF5 d e).map fun z=>.ar z.size (List.replicate n z)
  | some (.struct fs)=>(fs.toList.mapM fun f=>zF5 d f.type).map .st
  | some (.slice e) =>
   match ekT P e with
   | some k=>some (.sl k [])
   | none=>(szT P e).map fun s=>.sp s []
  | some (.pointer _)=>some .nilp
  | some (.map _ _)=>some .nilm
  | some u=>(zpV u).map fun k=>.sc k k.zero
  | none=>none
end
mutual
def encZ:PV→Option (List Value)
 | .sc k x=>some [k.enc x]
 | .arr k _ v=>some (v.toList.map k.enc)
 | .st fs=>zup fs
 | .ar sz xs=>if xs.all (fun x=>Nat.beq x.size sz)then zup xs else none
 | .sl _ []=>some [.slice none 0 0]
 | .sp _ []=>some [.slice none 0 0]
 | .sl _ (_ :: _)=>none
 | .sp _ (_ :: _)=>none
 | .nilp=>some [.pointer none]
 | .nilm=>some [.map none]
 | .raw _=>none
def zup:List PV→Option (List Value)
 | []=>some []
 | x :: xs=>(encZ x).bind fun a=>(zup xs).map (a ++ ·)
end
def zJh:Value→Value→Bool
 | .bool a,.bool b=>a == b
 | .int k a,.int k' b=>decide (k=k') && decide (a=b)
 | .slice none 0 0,.slice none 0 0=>true
 | .pointer none,.pointer none=>true
 | .map none,.map none=>true
 | _,_=>false
def zu4:List Value→List Value→Bool
 | [],[]=>true
 | a :: as,b :: bs=>zJh a b && zu4 as bs
 | _,_=>false
def zIw:Value→Bool
 | .agg _=>true
 | _=>false
section
variable (P:Program)
def zoE (t:TypeId):Option PV :=
 (zF5 P 12 t).bind fun z=>(encZ z).bind fun cs =>
  match (P.info? t).bind (·.zero) with
  | some v=>if zu4 v.cells.toList cs && z.isAgg == zIw v && z.isAgg == aggT P t && szT P t == some z.size then some z else none
  | none=>none
end
structure Out where
 val:A
 upd:List (Nat × Blk):=[]
 cut:List (Nat × Option (List PE)):=[]
def zar (c:List (Nat × Option (List PE))) (v:Bool) (n:Nat) (π:List PE):Bool :=
 c.all fun e=>match e with
  | (n0,none)=>!Nat.beq n n0
  | (n0,some π0)=>!(Nat.beq n n0 && zaO π0 v π)
def za5 (c:List (Nat × Option (List PE))) (n:Nat):Bool :=
 c.any fun e=>match e with
  | (n0,none)=>Nat.beq n n0
  | (_,some _)=>false
def A.isPlain:A→Bool
 | .pv _=>true
 | .p _ _ | .rp _ | .o _ | .vw .. | .pr .. | .fn ..=>true
 | _=>false
def A.storable:A→Bool
 | .st fs=>fs.all A.isPlain
 | x=>x.isPlain
def zI6:PV→Option Int
 | .sc .i j=>some j
 | .sc .u8 j=>some ((j:UInt8).toNat:Int) | .sc .u16 j=>some ((j:UInt16).toNat:Int)
 | .sc .u32 j=>some ((j:UInt32).toNat:Int) | .sc .u64 j=>some ((j:UInt64).toNat:Int)
 | _=>none
def A.idx:A→Option Int
 | .pv x=>zI6 x
 | _=>none
def zIG (x:Bool):A→A→A
 | .pv (.sc .b u),.pv (.sc .b v)=>.pv (.sc .b (bif x then u else v))
 | a,b=>bif x then a else b
section
variable (P:Program)
def eqSc:PV→PV→Option Bool
 | .sc .u8 a,.sc .u8 b=>some (decide (a=b)) | .sc .u16 a,.sc .u16 b=>some (decide (a=b)) | .sc .u32 a,.sc .u32 b=>some (decide (a=b))
 | .sc .u64 a,.sc .u64 b=>some (decide (a=b)) | .sc .i a,.sc .i b=>some (decide (a=b)) | .sc .b a,.sc .b b=>some (decide (a=b))
 | _,_=>none
def zyN:PV→PV→Option Bool
 | .arr .u8 n v,.arr .u8 m w=>if n=m then some (decide (v.toList=w.toList))else none
 | .arr .u32 n v,.arr .u32 m w=>if n=m then some (decide (v.toList=w.toList))else none
 | .arr .u64 n v,.arr .u64 m w=>if n=m then some (decide (v.toList=w.toList))else none
 | .arr .b n v,.arr .b m w=>if n=m then some (decide (v.toList=w.toList))else none
 | _,_=>none
mutual
def eqPV:PV→PV→Option Bool
 | .st xs,.st ys=>zgn xs ys
 | .arr k n v,y=>zyN (.arr k n v) y
 | .sc k x,y=>eqSc (.sc k x) y
 | _,_=>none
def zgn:List PV→List PV→Option Bool
 | [],[]=>some true
 | x :: xs,y :: ys=>(eqPV x y).bind fun a=>(zgn xs ys).map fun b=>a && b
 | _,_=>none
end
def eqT:Nat→TypeId→PV→Bool
 | 0,_,_=>false
 | d+1,t,x =>
  match P.underlying t,x with
  | some (.int _),.sc k _=>decide (k≠.b)
  | some .bool,.sc .b _=>true
  | some (.array n e),.arr k m _=>decide (n=m) && szT P e == some 1 && ekT P e == some k && aggT P e == false
  | some (.struct fs),.st xs=>!P.stoodInHeld t && go d fs.toList xs 0
  | _,_=>false
where go (d:Nat):List Field→List PV→Nat→Bool
  | [],[],_=>true
  | f :: fs,x :: xs,off=>decide (f.name ≠ "_") && Nat.beq f.offset off && szT P f.type == some x.size && aggT P f.type == x.isAgg && eqT d f.type x && go d fs xs (off+x.size)
  | _,_,_=>false
def zHS (t:TypeId):Bool :=
 match P.underlying t with
 | some .bool=>true
 | _=>false
def ptrT (t:TypeId):Bool :=
 match P.underlying t with
 | some (.pointer _)=>true
 | _=>false
def zEw (op:BinOp) (t:TypeId) (x y:A):Option A :=
 match op,x,y with
 | .eql,.pv a,.pv b=>match a,b with
  | .sc .b x,.sc .b y=>if zHS P t then some (.pv (.sc .b (decide (x=y))))else none
  | .sc _ _,_=>(zuk .eql a b).map .pv
  | .nilp,.nilp=>if ptrT P t then some (.pv (.sc .b true))else none
  | _,_=>if eqT P 12 t a && a.isAgg && !P.eqGuardType P.depth t then(eqPV a b).map fun r=>.pv (.sc .b r)else none
 | .neq,.pv a,.pv b=>match a,b with
  | .sc .b x,.sc .b y=>if zHS P t then some (.pv (.sc .b (!decide (x=y))))else none
  | .sc _ _,_=>(zuk .neq a b).map .pv
  | .nilp,.nilp=>if ptrT P t then some (.pv (.sc .b false))else none
  | _,_=>if eqT P 12 t a && a.isAgg && !P.eqGuardType P.depth t then(eqPV a b).map fun r=>.pv (.sc .b (!r))else none
 | op,.pv a,.pv b=>(zuk op a b).map .pv
 | .eql,.p _ _,.pv .nilp=>if ptrT P t then some (.pv (.sc .b false))else none
 | .neq,.p _ _,.pv .nilp=>if ptrT P t then some (.pv (.sc .b true))else none
 | .eql,.rp _,.pv .nilp=>if ptrT P t then some (.pv (.sc .b false))else none
 | .neq,.rp _,.pv .nilp=>if ptrT P t then some (.pv (.sc .b true))else none
 | _,_,_=>none
def zDe (s d:TypeId):A→Option A
 | .pv x=>match P.underlying s,P.underlying d with
  | some (.int _),some (.int k)=>(conv k x).map .pv
  | _,_=>none
 | _=>none
def fits (t:TypeId) (x:A):Bool:=szT P t == some x.size && x.isAgg == aggT P t && (P.underlying t).isSome
def zgX (L:Nat→Option Blk) (t:TypeId):A→Option A
 | .p n π=>(L n).bind fun b=>if fits P t (b.get π)then some (b.get π)else none
 | .rp x=>if fits P t (.pv x)then some (.pv x)else none
 | .pr n π off len=>(L n).bind fun b=>(b.elems π).bind fun r=>if fits P t (.pv (r.arr off len))then some (.pv (r.arr off len))else none
 | _=>none
def zgj (L:Nat→Option Blk) (t:TypeId) (a y:A):Option Out :=
 match a with
 | .p n π=>(L n).bind fun b =>
  if y.storable && fits P t y && Nat.beq (b.get π).size y.size then
   (b.set π y).map fun b'=>{ val:=.und,upd:=[(n,b')],cut:=[(n,some π)] }
  else none
 | _=>none
def zfC (L:Nat→Option Blk) (d:Nat) (b:Blk) (x:A):Option Out :=
 match L d with
 | none=>some { val:=x,upd:=[(d,b)] }
 | some _=>none
def zxe (L:Nat→Option Blk) (d:Nat) (t:TypeId):Option Out:=(zoE P t).bind fun z=>zfC L d (.box (.pv z)) (.p d [])
def zHu (L:Nat→Option Blk) (d:Nat) (y:A):Option Out:=if y.storable then zfC L d (.box y) (.p d [])else none
def zdj (t:TypeId):Option TypeId :=
 match P.underlying t with
 | some (.array _ e)=>some e
 | some (.slice e)=>some e
 | _=>none
def zcr (L:Nat→Option Blk) (t:TypeId) (x:A) (j:Int):Option A :=
 (zdj P t).bind fun e=>(szT P e).bind fun s =>
 match x with
 | .p n π=>(L n).bind fun b=>match P.underlying t,arrLen (b.get π) with
  | some (.array N _),some (N',sz)=>if Nat.beq N N' && Nat.beq s sz then(if 0≤j∧j < N then some (.p n (π++[.i j.toNat]))else none)else none
  | _,_=>none
 | .rp (.arr k n v)=>match P.underlying t with
  | some (.array N _)=>if Nat.beq N n && Nat.beq s 1 then(if 0≤j∧j < N then some (.rp (.sc k (v.toList.getD j.toNat k.zero)))else none)else none
  | _=>none
 | .rp (.ar sz xs)=>match P.underlying t with
  | some (.array N _)=>if Nat.beq s sz then(if xs.length=N∧0≤j∧j < N then some (.rp (xs.getD j.toNat .nilp))else none)else none
  | _=>none
 | .o n=>(L n).bind fun b=>match P.underlying t,b with
  | some (.slice _),.row rc _=>if Nat.beq s rc.sz then(if 0≤j∧j < rc.len then some (.p n [.i j.toNat])else none)else none
  | _,_=>none
 | .vw n π off len _=>(L n).bind fun b=>match P.underlying t,b.arrLen π with
  | some (.slice _),some (_,sz)=>if Nat.beq s sz then(if 0≤j∧j < len then some (.p n (π++[.i (off+j.toNat)]))else none)else none
  | _,_=>none
 | .pv (.sl k xs)=>match P.underlying t with
  | some (.slice _)=>if Nat.beq s 1 then(if 0≤j∧j < xs.length then some (.rp (.sc k (xs.getD j.toNat k.zero)))else none)else none
  | _=>none
 | .pv (.sp sz xs)=>match P.underlying t with
  | some (.slice _)=>if Nat.beq s sz then(if 0≤j∧j < xs.length then some (.rp (xs.getD j.toNat .nilp))else none)else none
  | _=>none
 | _=>none
def zsp (t:TypeId) (x:A) (j:Int):Option A :=
 match x,P.underlying t with
 | .pv (.arr k n v),some (.array N e)=>if Nat.beq n N && szT P e == some 1 && aggT P e == false && (P.underlying e).isSome then(if 0≤j∧j < N then some (.pv (.sc k (v.toList.getD j.toNat k.zero)))else none)else none
 | .pv (.ar sz xs),some (.array N e)=>if szT P e == some sz then
   (if xs.length=N∧0≤j∧j < N then(if aggT P e == (xs.getD j.toNat .nilp).isAgg && (P.underlying e).isSome then some (.pv (xs.getD j.toNat .nilp))else none)else none)else none
 | _,_=>none
def zbS (L:Nat→Option Blk) (t:TypeId) (x:A) (f:Nat):Option A :=
 match P.underlying t with
 | some (.struct fs)=>match fs[f]? with
  | some fd=>match x with
   | .p n π=>(L n).bind fun b=>match b.get π with
    | .pv (.st xs)=>if Nat.blt f xs.length && Nat.beq fd.offset (PV.sizeL (xs.take f)) && (szT P fd.type).any (Nat.blt 0)then some (.p n (π++[.f f]))else none
    | .st xs=>if Nat.blt f xs.length && Nat.beq fd.offset (A.sizeL (xs.take f)) && (szT P fd.type).any (Nat.blt 0)then some (.p n (π++[.f f]))else none
    | _=>none
   | .rp (.st xs)=>if Nat.blt f xs.length && Nat.beq fd.offset (PV.sizeL (xs.take f)) && (szT P fd.type).any (Nat.blt 0)then some (.rp (xs.getD f .nilp))else none
   | _=>none
  | none=>none
 | _=>none
def zCz (t:TypeId) (x:A) (f:Nat):Option A :=
 match P.underlying t,x with
 | some (.struct fs),.pv (.st xs)=>match fs[f]? with
  | some fd=>if Nat.blt f xs.length && Nat.beq fd.offset (PV.sizeL (xs.take f)) && szT P fd.type == some (xs.getD f .nilp).size && aggT P fd.type == (xs.getD f .nilp).isAgg && (P.underlying fd.type).isSome then some (.pv (xs.getD f .nilp))else none
  | none=>none
 | _,_=>none
def zlY (len:Nat) (cap:Option Nat) (lo hi mx:Option Int):Option (Nat × Nat × Option Nat) :=
 match mx with
 | none=>if 0≤lo.getD 0∧lo.getD 0≤hi.getD (len:Int)∧hi.getD (len:Int)≤((cap.getD len:Nat):Int)then some ((lo.getD 0).toNat,(hi.getD (len:Int)).toNat,cap)else none
 | some m=>match hi with
  | some h=>if 0≤lo.getD 0∧lo.getD 0≤h∧h≤m∧m≤((cap.getD len:Nat):Int)then some ((lo.getD 0).toNat,h.toNat,some m.toNat)else none
  | none=>none
def zfu (L:Nat→Option Blk) (t:TypeId) (x:A) (lo hi mx:Option Int):Option A :=
 (zdj P t).bind fun e=>(szT P e).bind fun s =>
 match x with
 | .p n π=>(L n).bind fun b=>match P.underlying t,arrLen (b.get π) with
  | some (.array N _),some (N',sz)=>if Nat.beq N N' && Nat.beq s sz then
    (zlY N (some N) lo hi mx).map fun(l,h,m)=>.vw n π l (h - l) (m.map (· - l))else none
  | _,_=>none
 | .rp (.arr k n v)=>match P.underlying t with
  | some (.array N _)=>if Nat.beq N n && Nat.beq s 1 then(zlY N (some N) lo hi mx).map fun(l,h,_)=>.pv (.sl k ((v.toList.drop l).take (h - l)))else none
  | _=>none
 | .o n=>(L n).bind fun b=>match P.underlying t,b with
  | some (.slice _),.row rc ex=>if Nat.beq s rc.sz then
    (zlY rc.len (bif ex then some rc.len else none) lo hi mx).map fun(l,h,m)=>.vw n [] l (h - l) (m.map (· - l))else none
  | _,_=>none
 | .vw n π off len cap=>(L n).bind fun b=>match P.underlying t,b.arrLen π with
  | some (.slice _),some (_,sz)=>if Nat.beq s sz then
    (zlY len cap lo hi mx).map fun(l,h,m)=>.vw n π (off+l) (h - l) (m.map (· - l))else none
  | _,_=>none
 | .pv (.sl k xs)=>match P.underlying t with
  | some (.slice _)=>if Nat.beq s 1 then(zlY xs.length none lo hi mx).map fun(l,h,_)=>.pv (.sl k ((xs.drop l).take (h - l)))else none
  | _=>none
 | .pv (.sp sz xs)=>match P.underlying t with
  | some (.slice _)=>if Nat.beq s sz then(zlY xs.length none lo hi mx).map fun(l,h,_)=>.pv (.sp sz ((xs.drop l).take (h - l)))else none
  | _=>none
 | _=>none
def room:Nat:=2 ^ 46
def zgs (e:TypeId):Option RC :=
 match ekT P e with
 | some k=>if szT P e == some 1 then some (.s k [])else none
 | none=>(szT P e).bind fun s=>if Nat.blt 0 s then some (.p s [])else none
def zo1 (e:TypeId) (n:Nat):Option RC :=
 (zoE P e).bind fun z=>match ekT P e,z with
  | some k,.sc k' x=>if szT P e == some 1 then(EK.cast k' k x).map fun y=>.s k (List.replicate n y)else none
  | none,z=>if Nat.blt 0 z.size && szT P e == some z.size then some (.p z.size (List.replicate n z))else none
  | _,_=>none
def zmc (t:TypeId):Nat:=((P.info? t).map (·.bytes)).getD 0
def zdI (L:Nat→Option Blk) (d:Nat) (t:TypeId) (l c:Int) (ex:Bool):Option Out :=
 match P.underlying t with
 | some (.slice e)=>if 0≤l∧l≤c∧c*(zmc P e:Int)≤(room:Int)∧c≤2 ^ 62 then(zo1 P e l.toNat).bind fun rc=>zfC L d (.row rc ex) (.o d)else none
 | _=>none
def zqO (k:EK):List A→Option (List k.T)
 | []=>some []
 | .pv (.sc k' x) :: xs=>(EK.cast k' k x).bind fun y=>(zqO k xs).map (y :: ·)
 | _=>none
def zy8 (sz:Nat):List A→Option (List PV)
 | []=>some []
 | x :: xs=>x.toPV.bind fun y=>if Nat.beq y.size sz then(zy8 sz xs).map (y :: ·)else none
def zc1:Nat→List (Nat × A)→Option (List A)
 | _,[]=>some []
 | k,(i,x) :: r=>if Nat.beq i k then(zc1 (k+1) r).map (x :: ·)else none
def zdZ (L:Nat→Option Blk) (d:Nat) (t:TypeId) (n:Nat) (ps:List (Nat × A)):Option Out :=
 match P.underlying t with
 | some (.slice e)=>(zc1 0 ps).bind fun xs=>if Nat.beq xs.length n && (zoE P e).isSome && Nat.ble (n*(szT P e).getD 0) 16777216 then
   match ekT P e with
   | some k=>if szT P e == some 1 then(zqO k xs).bind fun ys=>zfC L d (.row (.s k ys) true) (.o d)else none
   | none=>(szT P e).bind fun s=>if Nat.blt 0 s then(zy8 s xs).bind fun ys=>zfC L d (.row (.p s ys) true) (.o d)else none
  else none
 | _=>none
def zCD (z:A) (i:Nat):Bool→Bool
 | true=>match z with
  | .pv (.arr _ n _)=>Nat.blt i n
  | .pv (.ar _ xs)=>Nat.blt i xs.length
  | _=>false
 | false=>match z with
  | .pv (.st xs)=>Nat.blt i xs.length
  | .st xs=>Nat.blt i xs.length
  | _=>false
def zl9 (place:Nat→Option (Nat × Nat)) (arr:Bool):A→List (Nat × A)→Option A
 | z,[]=>some z
 | z,(i,x) :: r=>(place i).bind fun os =>
  if x.storable && zCD z i arr && Nat.beq (z.get [bif arr then PE.i i else PE.f i]).size x.size && Nat.beq os.1 (z.off [bif arr then PE.i i else PE.f i]) && Nat.beq os.2 x.size then
   (z.set [bif arr then PE.i i else PE.f i] x).bind fun z=>zl9 place arr z r else none
def zCp (t:TypeId) (ps:List (Nat × A)):Option A :=
 (zoE P t).bind fun z=>if z.isAgg then match P.underlying t with
  | some (.array _ e)=>(P.info? e).bind fun ie=>zl9 (fun i=>some (i*ie.size,ie.size)) true (.pv z) ps
  | some (.struct fs)=>(fs.toList.mapM (fun f=>(P.info? f.type).map fun i=>(f.offset,i.size))).bind fun pl=>zl9 (pl.toArray[·]?) false (.pv z) ps
  | _=>none
 else none
def zs2 (L:Nat→Option Blk) (t:TypeId) (x:A):Option A :=
 match P.underlying t with
 | some (.array n e)=>(szT P e).bind fun s=>match x with
  | .pv (.sl k xs)=>if Nat.beq s 1 then(if n≤xs.length∧0 < n then some (.rp ((RC.s k xs).arr 0 n))else none)else none
  | .vw m π off len _=>(L m).bind fun b=>match b.arrLen π with
   | some (_,sz)=>if Nat.beq s sz then(if n≤len∧0 < n then some (.pr m π off n)else none)else none
   | none=>none
  | .o m=>(L m).bind fun b=>match b with
   | .row rc _=>if Nat.beq s rc.sz then(if n≤rc.len∧0 < n then some (.pr m [] 0 n)else none)else none
   | _=>none
  | _=>none
 | _=>none
def zJa:A→Option A
 | .p n π=>some (.p n π)
 | .pr n π o l=>some (.pr n π o l)
 | .rp x=>some (.rp x)
 | .fn f cs=>some (.fn f cs)
 | _=>none
def zsz:A→Nat→Option A
 | .tup xs,i=>xs[i]?
 | _,_=>none
def lenA (L:Nat→Option Blk):A→Option Nat
 | .o n=>(L n).bind fun b=>match b with
  | .row rc _=>some rc.len
  | _=>none
 | .vw _ _ _ len _=>some len
 | .pv (.sl _ xs)=>some xs.length
 | .pv (.sp _ xs)=>some xs.length
 | _=>none
def capA (L:Nat→Option Blk):A→Option Nat
 | .o n=>(L n).bind fun b=>match b with
  | .row rc true=>some rc.len
  | _=>none
 | .vw _ _ _ _ (some c)=>some c
 | _=>none
def intA (n:Nat):A:=.pv (.sc .i (n:Int))
def zEj (L:Nat→Option Blk) (t:TypeId) (x:A):Option A :=
 match P.underlying t with
 | some (.slice _)=>(lenA L x).map intA
 | some (.array n _)=>some (intA n)
 | some (.pointer u)=>match P.underlying u with
  | some (.array n _)=>some (intA n)
  | _=>none
 | _=>none
def zEy (L:Nat→Option Blk) (t:TypeId) (x:A):Option A :=
 match P.underlying t with
 | some (.slice _)=>(capA L x).map intA
 | some (.array n _)=>some (intA n)
 | some (.pointer u)=>match P.underlying u with
  | some (.array n _)=>some (intA n)
  | _=>none
 | _=>none
def ze0 (L:Nat→Option Blk):A→Option RC
 | .o n=>(L n).bind fun b=>match b with
  | .row rc _=>some rc
  | _=>none
 | .vw n π off len _=>(L n).bind fun b=>(b.elems π).map (RC.sub off len)
 | .pv (.sl k xs)=>some (.s k xs)
 | .pv (.sp sz xs)=>some (.p sz xs)
 | _=>none
def RC.app:RC→RC→Option RC
 | .s .u8 xs,.s .u8 ys=>some (.s .u8 (xs++ys)) | .s .u16 xs,.s .u16 ys=>some (.s .u16 (xs++ys)) | .s .u32 xs,.s .u32 ys=>some (.s .u32 (xs++ys))
 | .s .u64 xs,.s .u64 ys=>some (.s .u64 (xs++ys)) | .s .i xs,.s .i ys=>some (.s .i (xs++ys)) | .s .b xs,.s .b ys=>some (.s .b (xs++ys))
 | .p a xs,.p b ys=>if Nat.beq a b then some (.p a (xs++ys))else none
 | _,_=>none
def zhL (L:Nat→Option Blk) (e:TypeId) (zeros:Bool) (y:A):Option RC :=
 bif zeros then y.idx.bind fun n=>if 0≤n∧n≤2 ^ 62 then zo1 P e n.toNat else none
 else ze0 L y
def zrL (t:TypeId):Option Bool :=
 match P.underlying t with
 | some (.int _)=>some true
 | some (.slice _)=>some false
 | _=>none
def zeV (L:Nat→Option Blk) (d:Nat) (t t1:TypeId) (nilc:Bool) (x y:A):Option Out :=
 match P.underlying t with
 | some (.slice e)=>(zrL P t1).bind fun zeros=>(bif nilc then zgs P e else ze0 L x).bind fun rx=>(zhL P L e zeros y).bind fun ry=>(rx.app ry).bind fun r =>
  if szT P e == some r.sz && Nat.blt 0 r.sz && Nat.beq rx.sz r.sz && (zoE P e).isSome then
   if(r.len*zmc P e≤room∧r.len≤room) then
    bif nilc then zfC L d (.row r false) (.o d) else
    match x,L d with
    | .o n,none=>some { val:=.o d,upd:=[(d,.row r false)],cut:=[(n,none)] }
    | .vw _ _ _ len (some c),none=>if len=c∧0 < ry.len then some { val:=.o d,upd:=[(d,.row r false)] } else none
    | _,_=>none
   else none
  else none
 | _=>none
end
end Go.Proofs.YtnolgfdjcipmmaaDoor.M
namespace Go.Proofs.YtnolgfdjcipmmaaDoor.M
open Go
theorem zgk (k:IntKind) (hk:k.signed=false) (n:Nat) (h:n < 2 ^ k.bits):k.wrap (n:Int)=n:=by
 unfold IntKind.wrap
 simp only[hk,Bool.false_and,Bool.false_eq_true,if_false]
 rw[Int.emod_eq_of_lt (by omega) (by exact_mod_cast h)]
theorem zcQ (k:IntKind) (hk:k.signed=false) (n:Nat):k.wrap (n:Int)=((n % 2 ^ k.bits:Nat):Int):=by
 unfold IntKind.wrap
 simp only[hk,Bool.false_and,Bool.false_eq_true,if_false]
 simp
theorem zzg (a b:Nat):((a:Int) == (b:Int))=decide (a=b):=by
 rw[Bool.eq_iff_iff]
 simp only[beq_iff_eq,decide_eq_true_eq]
 omega
section
variable (P:Program) (w:World)
theorem zrm (k:IntKind) (hk:k.signed=false) (x y:Nat) (hx:x < 2 ^ k.bits) (hy:y < 2 ^ k.bits):(Op.intBits .and k x y).run P w=.ok (.int k ((x &&& y:Nat):Int)) w:=by
 simp only[Op.intBits,BitVec.ofInt_natCast,BitVec.toNat_and,BitVec.toNat_ofNat,Nat.mod_eq_of_lt hx,Nat.mod_eq_of_lt hy]
 rw[zgk k hk _ (Nat.lt_of_le_of_lt Nat.and_le_left hx)]
 rfl
theorem zxT (k:IntKind) (hk:k.signed=false) (x y:Nat) (hx:x < 2 ^ k.bits) (hy:y < 2 ^ k.bits):(Op.intBits .or k x y).run P w=.ok (.int k ((x ||| y:Nat):Int)) w:=by
 simp only[Op.intBits,BitVec.ofInt_natCast,BitVec.toNat_or,BitVec.toNat_ofNat,Nat.mod_eq_of_lt hx,Nat.mod_eq_of_lt hy]
 rw[zgk k hk _ (Nat.or_lt_two_pow hx hy)]
 rfl
theorem zrq (k:IntKind) (hk:k.signed=false) (x y:Nat) (hx:x < 2 ^ k.bits) (hy:y < 2 ^ k.bits):(Op.intBits .xor k x y).run P w=.ok (.int k ((x ^^^ y:Nat):Int)) w:=by
 simp only[Op.intBits,BitVec.ofInt_natCast,BitVec.toNat_xor,BitVec.toNat_ofNat,Nat.mod_eq_of_lt hx,Nat.mod_eq_of_lt hy]
 rw[zgk k hk _ (Nat.xor_lt_two_pow hx hy)]
 rfl
theorem zjt (k:IntKind) (hk:k.signed=false) (x y:Nat):(Op.intBits .andNot k x y).run P w=.ok (.int k ((BitVec.ofNat k.bits x &&& ~~~ BitVec.ofNat k.bits y).toNat:Int)) w:=by
 simp only[Op.intBits,BitVec.ofInt_natCast]
 rw[zgk k hk _ (BitVec.isLt _)]
 rfl
theorem zoT (op:BinOp) (t:TypeId) (x y:UInt8) (r:PV) (h:zp4 op x y=some r) :
  ∃ v,(Go.binOp op t (.int .u8 x.toNat) (.int .u8 y.toNat)).run P w=.ok v w∧∀ S hh,RepPV S hh r [v]:=by
 have hx:x.toNat < 2 ^ 8:=x.toNat_lt
 have hy:y.toNat < 2 ^ 8:=y.toNat_lt
 cases op<;>simp only[zp4]at h
 case add =>
  cases h
  refine ⟨_,?_,fun S hh=>.sc .u8 (x+y)⟩
  simp only[Go.binOp,Op.intArith,EK.enc,UInt8.toNat_add]
  simp[IntKind.wrap,IntKind.signed,IntKind.bits]
 case sub =>
  cases h
  refine ⟨_,?_,fun S hh=>.sc .u8 (x - y)⟩
  simp only[Go.binOp,Op.intArith,EK.enc,UInt8.toNat_sub]
  simp[IntKind.wrap,IntKind.signed,IntKind.bits]
  omega
 case mul =>
  cases h
  refine ⟨_,?_,fun S hh=>.sc .u8 (x*y)⟩
  simp only[Go.binOp,Op.intArith,EK.enc,UInt8.toNat_mul]
  simp[IntKind.wrap,IntKind.signed,IntKind.bits]
 case quo =>
  split at h
  ·cases h
  ·rename_i hne
   cases h
   refine ⟨_,?_,fun S hh=>.sc .u8 (x / y)⟩
   have hy0:y.toNat≠0:=fun e=>hne (UInt8.toNat_inj.1 (by simpa using e))
   have hy1:¬ ((y.toNat:Int)=0):=by omega
   have hd:x.toNat / y.toNat < 2 ^ 8:=Nat.lt_of_le_of_lt (Nat.div_le_self _ _) hx
   simp only[Go.binOp,Op.intDiv,EK.enc,UInt8.toNat_div,hy1,if_false]
   have e:(x.toNat:Int).tdiv (y.toNat:Int)=((x.toNat / y.toNat:Nat):Int):=rfl
   rw[e,zgk .u8 rfl _ hd]
   rfl
 case rem =>
  split at h
  ·cases h
  ·rename_i hne
   cases h
   refine ⟨_,?_,fun S hh=>.sc .u8 (x % y)⟩
   have hy0:y.toNat≠0:=fun e=>hne (UInt8.toNat_inj.1 (by simpa using e))
   have hy1:¬ ((y.toNat:Int)=0):=by omega
   simp only[Go.binOp,Op.intDiv,EK.enc,UInt8.toNat_mod,hy1,if_false]
   have e:(x.toNat:Int).tmod (y.toNat:Int)=((x.toNat % y.toNat:Nat):Int):=rfl
   simp[e]
 case and =>
  cases h
  refine ⟨_,?_,fun S hh=>.sc .u8 (x &&& y)⟩
  rw[EK.enc,UInt8.toNat_and]
  exact zrm P w .u8 rfl _ _ hx hy
 case or =>
  cases h
  refine ⟨_,?_,fun S hh=>.sc .u8 (x ||| y)⟩
  rw[EK.enc,UInt8.toNat_or]
  exact zxT P w .u8 rfl _ _ hx hy
 case xor =>
  cases h
  refine ⟨_,?_,fun S hh=>.sc .u8 (x ^^^ y)⟩
  rw[EK.enc,UInt8.toNat_xor]
  exact zrq P w .u8 rfl _ _ hx hy
 case andNot =>
  cases h
  refine ⟨_,?_,fun S hh=>.sc .u8 (x &&& ~~~ y)⟩
  have e:(x &&& ~~~ y).toNat=(BitVec.ofNat 8 x.toNat &&& ~~~ BitVec.ofNat 8 y.toNat).toNat:=by
   rw[←UInt8.toNat_toBitVec]
   simp
  rw[EK.enc,e]
  exact zjt P w .u8 rfl _ _
 case eql =>
  cases h
  refine ⟨_,?_,fun S hh=>.sc .b (decide (x=y))⟩
  simp only[Go.binOp,Op.intCmp,EK.enc,zzg]
  simp[←UInt8.toNat_inj]
 case neq =>
  cases h
  refine ⟨_,?_,fun S hh=>.sc .b (!decide (x=y))⟩
  simp only[Go.binOp,Op.intCmp,EK.enc,bne,zzg]
  simp[←UInt8.toNat_inj]
 case lss =>
  cases h
  refine ⟨_,?_,fun S hh=>.sc .b (decide (x < y))⟩
  simp[Go.binOp,Op.intCmp,EK.enc,UInt8.lt_iff_toNat_lt]
 case leq =>
  cases h
  refine ⟨_,?_,fun S hh=>.sc .b (decide (x≤y))⟩
  simp[Go.binOp,Op.intCmp,EK.enc,UInt8.le_iff_toNat_le]
 case gtr =>
  cases h
  refine ⟨_,?_,fun S hh=>.sc .b (decide (y < x))⟩
  simp[Go.binOp,Op.intCmp,EK.enc,UInt8.lt_iff_toNat_lt]
 case geq =>
  cases h
  refine ⟨_,?_,fun S hh=>.sc .b (decide (y≤x))⟩
  simp[Go.binOp,Op.intCmp,EK.enc,UInt8.le_iff_toNat_le]
 all_goals cases h
theorem zmx (op:BinOp) (t:TypeId) (x y:UInt16) (r:PV) (h:zkX op x y=some r) :
  ∃ v,(Go.binOp op t (.int .u16 x.toNat) (.int .u16 y.toNat)).run P w=.ok v w∧∀ S hh,RepPV S hh r [v]:=by
 have hx:x.toNat < 2 ^ 16:=x.toNat_lt
 have hy:y.toNat < 2 ^ 16:=y.toNat_lt
 cases op<;>simp only[zkX]at h
 case add =>
  cases h
  refine ⟨_,?_,fun S hh=>.sc .u16 (x+y)⟩
  simp only[Go.binOp,Op.intArith,EK.enc,UInt16.toNat_add]
  simp[IntKind.wrap,IntKind.signed,IntKind.bits]
 case sub =>
  cases h
  refine ⟨_,?_,fun S hh=>.sc .u16 (x - y)⟩
  simp only[Go.binOp,Op.intArith,EK.enc,UInt16.toNat_sub]
  simp[IntKind.wrap,IntKind.signed,IntKind.bits]
  omega
 case mul =>
  cases h
  refine ⟨_,?_,fun S hh=>.sc .u16 (x*y)⟩
  simp only[Go.binOp,Op.intArith,EK.enc,UInt16.toNat_mul]
  simp[IntKind.wrap,IntKind.signed,IntKind.bits]
 case quo =>
  split at h
  ·cases h
  ·rename_i hne
   cases h
   refine ⟨_,?_,fun S hh=>.sc .u16 (x / y)⟩
   have hy0:y.toNat≠0:=fun e=>hne (UInt16.toNat_inj.1 (by simpa using e))
   have hy1:¬ ((y.toNat:Int)=0):=by omega
   have hd:x.toNat / y.toNat < 2 ^ 16:=Nat.lt_of_le_of_lt (Nat.div_le_self _ _) hx
   simp only[Go.binOp,Op.intDiv,EK.enc,UInt16.toNat_div,hy1,if_false]
   have e:(x.toNat:Int).tdiv (y.toNat:Int)=((x.toNat / y.toNat:Nat):Int):=rfl
   rw[e,zgk .u16 rfl _ hd]
   rfl
 case rem =>
  split at h
  ·cases h
  ·rename_i hne
   cases h
   refine ⟨_,?_,fun S hh=>.sc .u16 (x % y)⟩
   have hy0:y.toNat≠0:=fun e=>hne (UInt16.toNat_inj.1 (by simpa using e))
   have hy1:¬ ((y.toNat:Int)=0):=by omega
   simp only[Go.binOp,Op.intDiv,EK.enc,UInt16.toNat_mod,hy1,if_false]
   have e:(x.toNat:Int).tmod (y.toNat:Int)=((x.toNat % y.toNat:Nat):Int):=rfl
   simp[e]
 case and =>
  cases h
  refine ⟨_,?_,fun S hh=>.sc .u16 (x &&& y)⟩
  rw[EK.enc,UInt16.toNat_and]
  exact zrm P w .u16 rfl _ _ hx hy
 case or =>
  cases h
  refine ⟨_,?_,fun S hh=>.sc .u16 (x ||| y)⟩
  rw[EK.enc,UInt16.toNat_or]
  exact zxT P w .u16 rfl _ _ hx hy
 case xor =>
  cases h
  refine ⟨_,?_,fun S hh=>.sc .u16 (x ^^^ y)⟩
  rw[EK.enc,UInt16.toNat_xor]
  exact zrq P w .u16 rfl _ _ hx hy
 case andNot =>
  cases h
  refine ⟨_,?_,fun S hh=>.sc .u16 (x &&& ~~~ y)⟩
  have e:(x &&& ~~~ y).toNat=(BitVec.ofNat 16 x.toNat &&& ~~~ BitVec.ofNat 16 y.toNat).toNat:=by
   rw[←UInt16.toNat_toBitVec]
   simp
  rw[EK.enc,e]
  exact zjt P w .u16 rfl _ _
 case eql =>
  cases h
  refine ⟨_,?_,fun S hh=>.sc .b (decide (x=y))⟩
  simp only[Go.binOp,Op.intCmp,EK.enc,zzg]
  simp[←UInt16.toNat_inj]
 case neq =>
  cases h
  refine ⟨_,?_,fun S hh=>.sc .b (!decide (x=y))⟩
  simp only[Go.binOp,Op.intCmp,EK.enc,bne,zzg]
  simp[←UInt16.toNat_inj]
 case lss =>
  cases h
  refine ⟨_,?_,fun S hh=>.sc .b (decide (x < y))⟩
  simp[Go.binOp,Op.intCmp,EK.enc,UInt16.lt_iff_toNat_lt]
 case leq =>
  cases h
  refine ⟨_,?_,fun S hh=>.sc .b (decide (x≤y))⟩
  simp[Go.binOp,Op.intCmp,EK.enc,UInt16.le_iff_toNat_le]
 case gtr =>
  cases h
  refine ⟨_,?_,fun S hh=>.sc .b (decide (y < x))⟩
  simp[Go.binOp,Op.intCmp,EK.enc,UInt16.lt_iff_toNat_lt]
 case geq =>
  cases h
  refine ⟨_,?_,fun S hh=>.sc .b (decide (y≤x))⟩
  simp[Go.binOp,Op.intCmp,EK.enc,UInt16.le_iff_toNat_le]
 all_goals cases h
theorem znm (op:BinOp) (t:TypeId) (x y:UInt32) (r:PV) (h:zkB op x y=some r) :
  ∃ v,(Go.binOp op t (.int .u32 x.toNat) (.int .u32 y.toNat)).run P w=.ok v w∧∀ S hh,RepPV S hh r [v]:=by
 have hx:x.toNat < 2 ^ 32:=x.toNat_lt
 have hy:y.toNat < 2 ^ 32:=y.toNat_lt
 cases op<;>simp only[zkB]at h
 case add =>
  cases h
  refine ⟨_,?_,fun S hh=>.sc .u32 (x+y)⟩
  simp only[Go.binOp,Op.intArith,EK.enc,UInt32.toNat_add]
  simp[IntKind.wrap,IntKind.signed,IntKind.bits]
 case sub =>
  cases h
  refine ⟨_,?_,fun S hh=>.sc .u32 (x - y)⟩
  simp only[Go.binOp,Op.intArith,EK.enc,UInt32.toNat_sub]
  simp[IntKind.wrap,IntKind.signed,IntKind.bits]
  omega
 case mul =>
  cases h
  refine ⟨_,?_,fun S hh=>.sc .u32 (x*y)⟩
  simp only[Go.binOp,Op.intArith,EK.enc,UInt32.toNat_mul]
  simp[IntKind.wrap,IntKind.signed,IntKind.bits]
 case quo =>
  split at h
  ·cases h
  ·rename_i hne
   cases h
   refine ⟨_,?_,fun S hh=>.sc .u32 (x / y)⟩
   have hy0:y.toNat≠0:=fun e=>hne (UInt32.toNat_inj.1 (by simpa using e))
   have hy1:¬ ((y.toNat:Int)=0):=by omega
   have hd:x.toNat / y.toNat < 2 ^ 32:=Nat.lt_of_le_of_lt (Nat.div_le_self _ _) hx
   simp only[Go.binOp,Op.intDiv,EK.enc,UInt32.toNat_div,hy1,if_false]
   have e:(x.toNat:Int).tdiv (y.toNat:Int)=((x.toNat / y.toNat:Nat):Int):=rfl
   rw[e,zgk .u32 rfl _ hd]
   rfl
 case rem =>
  split at h
  ·cases h
  ·rename_i hne
   cases h
   refine ⟨_,?_,fun S hh=>.sc .u32 (x % y)⟩
   have hy0:y.toNat≠0:=fun e=>hne (UInt32.toNat_inj.1 (by simpa using e))
   have hy1:¬ ((y.toNat:Int)=0):=by omega
   simp only[Go.binOp,Op.intDiv,EK.enc,UInt32.toNat_mod,hy1,if_false]
   have e:(x.toNat:Int).tmod (y.toNat:Int)=((x.toNat % y.toNat:Nat):Int):=rfl
   simp[e]
 case and =>
  cases h
  refine ⟨_,?_,fun S hh=>.sc .u32 (x &&& y)⟩
  rw[EK.enc,UInt32.toNat_and]
  exact zrm P w .u32 rfl _ _ hx hy
 case or =>
  cases h
  refine ⟨_,?_,fun S hh=>.sc .u32 (x ||| y)⟩
  rw[EK.enc,UInt32.toNat_or]
  exact zxT P w .u32 rfl _ _ hx hy
 case xor =>
  cases h
  refine ⟨_,?_,fun S hh=>.sc .u32 (x ^^^ y)⟩
  rw[EK.enc,UInt32.toNat_xor]
  exact zrq P w .u32 rfl _ _ hx hy
 case andNot =>
  cases h
  refine ⟨_,?_,fun S hh=>.sc .u32 (x &&& ~~~ y)⟩
  have e:(x &&& ~~~ y).toNat=(BitVec.ofNat 32 x.toNat &&& ~~~ BitVec.ofNat 32 y.toNat).toNat:=by
   rw[←UInt32.toNat_toBitVec]
   simp
  rw[EK.enc,e]
  exact zjt P w .u32 rfl _ _
 case eql =>
  cases h
  refine ⟨_,?_,fun S hh=>.sc .b (decide (x=y))⟩
  simp only[Go.binOp,Op.intCmp,EK.enc,zzg]
  simp[←UInt32.toNat_inj]
 case neq =>
  cases h
  refine ⟨_,?_,fun S hh=>.sc .b (!decide (x=y))⟩
  simp only[Go.binOp,Op.intCmp,EK.enc,bne,zzg]
  simp[←UInt32.toNat_inj]
 case lss =>
  cases h
  refine ⟨_,?_,fun S hh=>.sc .b (decide (x < y))⟩
  simp[Go.binOp,Op.intCmp,EK.enc,UInt32.lt_iff_toNat_lt]
 case leq =>
  cases h
  refine ⟨_,?_,fun S hh=>.sc .b (decide (x≤y))⟩
  simp[Go.binOp,Op.intCmp,EK.enc,UInt32.le_iff_toNat_le]
 case gtr =>
  cases h
  refine ⟨_,?_,fun S hh=>.sc .b (decide (y < x))⟩
  simp[Go.binOp,Op.intCmp,EK.enc,UInt32.lt_iff_toNat_lt]
 case geq =>
  cases h
  refine ⟨_,?_,fun S hh=>.sc .b (decide (y≤x))⟩
  simp[Go.binOp,Op.intCmp,EK.enc,UInt32.le_iff_toNat_le]
 all_goals cases h
theorem znB (op:BinOp) (t:TypeId) (x y:UInt64) (r:PV) (h:zlj op x y=some r) :
  ∃ v,(Go.binOp op t (.int .u64 x.toNat) (.int .u64 y.toNat)).run P w=.ok v w∧∀ S hh,RepPV S hh r [v]:=by
 have hx:x.toNat < 2 ^ 64:=x.toNat_lt
 have hy:y.toNat < 2 ^ 64:=y.toNat_lt
 cases op<;>simp only[zlj]at h
 case add =>
  cases h
  refine ⟨_,?_,fun S hh=>.sc .u64 (x+y)⟩
  simp only[Go.binOp,Op.intArith,EK.enc,UInt64.toNat_add]
  simp[IntKind.wrap,IntKind.signed,IntKind.bits]
 case sub =>
  cases h
  refine ⟨_,?_,fun S hh=>.sc .u64 (x - y)⟩
  simp only[Go.binOp,Op.intArith,EK.enc,UInt64.toNat_sub]
  simp[IntKind.wrap,IntKind.signed,IntKind.bits]
  omega
 case mul =>
  cases h
  refine ⟨_,?_,fun S hh=>.sc .u64 (x*y)⟩
  simp only[Go.binOp,Op.intArith,EK.enc,UInt64.toNat_mul]
  simp[IntKind.wrap,IntKind.signed,IntKind.bits]
 case quo =>
  split at h
  ·cases h
  ·rename_i hne
   cases h
   refine ⟨_,?_,fun S hh=>.sc .u64 (x / y)⟩
   have hy0:y.toNat≠0:=fun e=>hne (UInt64.toNat_inj.1 (by simpa using e))
   have hy1:¬ ((y.toNat:Int)=0):=by omega
   have hd:x.toNat / y.toNat < 2 ^ 64:=Nat.lt_of_le_of_lt (Nat.div_le_self _ _) hx
   simp only[Go.binOp,Op.intDiv,EK.enc,UInt64.toNat_div,hy1,if_false]
   have e:(x.toNat:Int).tdiv (y.toNat:Int)=((x.toNat / y.toNat:Nat):Int):=rfl
   rw[e,zgk .u64 rfl _ hd]
   rfl
 case rem =>
  split at h
  ·cases h
  ·rename_i hne
   cases h
   refine ⟨_,?_,fun S hh=>.sc .u64 (x % y)⟩
   have hy0:y.toNat≠0:=fun e=>hne (UInt64.toNat_inj.1 (by simpa using e))
   have hy1:¬ ((y.toNat:Int)=0):=by omega
   simp only[Go.binOp,Op.intDiv,EK.enc,UInt64.toNat_mod,hy1,if_false]
   have e:(x.toNat:Int).tmod (y.toNat:Int)=((x.toNat % y.toNat:Nat):Int):=rfl
   simp[e]
 case and =>
  cases h
  refine ⟨_,?_,fun S hh=>.sc .u64 (x &&& y)⟩
  rw[EK.enc,UInt64.toNat_and]
  exact zrm P w .u64 rfl _ _ hx hy
 case or =>
  cases h
  refine ⟨_,?_,fun S hh=>.sc .u64 (x ||| y)⟩
  rw[EK.enc,UInt64.toNat_or]
  exact zxT P w .u64 rfl _ _ hx hy
 case xor =>
  cases h
  refine ⟨_,?_,fun S hh=>.sc .u64 (x ^^^ y)⟩
  rw[EK.enc,UInt64.toNat_xor]
  exact zrq P w .u64 rfl _ _ hx hy
 case andNot =>
  cases h
  refine ⟨_,?_,fun S hh=>.sc .u64 (x &&& ~~~ y)⟩
  have e:(x &&& ~~~ y).toNat=(BitVec.ofNat 64 x.toNat &&& ~~~ BitVec.ofNat 64 y.toNat).toNat:=by
   rw[←UInt64.toNat_toBitVec]
   simp
  rw[EK.enc,e]
  exact zjt P w .u64 rfl _ _
 case eql =>
  cases h
  refine ⟨_,?_,fun S hh=>.sc .b (decide (x=y))⟩
  simp only[Go.binOp,Op.intCmp,EK.enc,zzg]
  simp[←UInt64.toNat_inj]
 case neq =>
  cases h
  refine ⟨_,?_,fun S hh=>.sc .b (!decide (x=y))⟩
  simp only[Go.binOp,Op.intCmp,EK.enc,bne,zzg]
  simp[←UInt64.toNat_inj]
 case lss =>
  cases h
  refine ⟨_,?_,fun S hh=>.sc .b (decide (x < y))⟩
  simp[Go.binOp,Op.intCmp,EK.enc,UInt64.lt_iff_toNat_lt]
 case leq =>
  cases h
  refine ⟨_,?_,fun S hh=>.sc .b (decide (x≤y))⟩
  simp[Go.binOp,Op.intCmp,EK.enc,UInt64.le_iff_toNat_le]
 case gtr =>
  cases h
  refine ⟨_,?_,fun S hh=>.sc .b (decide (y < x))⟩
  simp[Go.binOp,Op.intCmp,EK.enc,UInt64.lt_iff_toNat_lt]
 case geq =>
  cases h
  refine ⟨_,?_,fun S hh=>.sc .b (decide (y≤x))⟩
  simp[Go.binOp,Op.intCmp,EK.enc,UInt64.le_iff_toNat_le]
 all_goals cases h
theorem zGG (op:BinOp) (t:TypeId) (x y:Int) (r:PV) (h:zFq op x y=some r) :
  ∃ v,(Go.binOp op t (.int .i64 x) (.int .i64 y)).run P w=.ok v w∧∀ S hh,RepPV S hh r [v]:=by
 cases op<;>simp only[zFq]at h
 case quo =>
  split at h
  ·cases h
  ·rename_i hne
   cases h
   exact ⟨_,by simp only[Go.binOp,Op.intDiv,hne,if_false]; rfl,fun S hh=>.sc .i (w64 (x.tdiv y))⟩
 case rem =>
  split at h
  ·cases h
  ·rename_i hne
   cases h
   exact ⟨_,by simp only[Go.binOp,Op.intDiv,hne,if_false]; rfl,fun S hh=>.sc .i (x.tmod y)⟩
 case add=>cases h; exact ⟨_,rfl,fun S hh=>.sc .i _⟩
 case sub=>cases h; exact ⟨_,rfl,fun S hh=>.sc .i _⟩
 case mul=>cases h; exact ⟨_,rfl,fun S hh=>.sc .i _⟩
 case and=>cases h; exact ⟨_,rfl,fun S hh=>.sc .i _⟩
 case or=>cases h; exact ⟨_,rfl,fun S hh=>.sc .i _⟩
 case xor=>cases h; exact ⟨_,rfl,fun S hh=>.sc .i _⟩
 case andNot=>cases h; exact ⟨_,rfl,fun S hh=>.sc .i _⟩
 case eql =>
  cases h
  refine ⟨_,?_,fun S hh=>.sc .b (decide (x=y))⟩
  have:(x == y)=decide (x=y):=by rw[Bool.eq_iff_iff]; simp
  simp only[Go.binOp,Op.intCmp,EK.enc,this]
  rfl
 case neq =>
  cases h
  refine ⟨_,?_,fun S hh=>.sc .b (!decide (x=y))⟩
  have:(x == y)=decide (x=y):=by rw[Bool.eq_iff_iff]; simp
  simp only[Go.binOp,Op.intCmp,EK.enc,bne,this]
  rfl
 case lss=>cases h; exact ⟨_,rfl,fun S hh=>.sc .b (decide (x < y))⟩
 case leq=>cases h; exact ⟨_,rfl,fun S hh=>.sc .b (decide (x≤y))⟩
 case gtr=>cases h; exact ⟨_,by simp only[Go.binOp,Op.intCmp]; rfl,fun S hh=>.sc .b (decide (y < x))⟩
 case geq=>cases h; exact ⟨_,by simp only[Go.binOp,Op.intCmp]; rfl,fun S hh=>.sc .b (decide (y≤x))⟩
 all_goals cases h
theorem zG9 {y:PV} {c:Nat} (h:cnt y=some c) {S hh vs} (r:RepPV S hh y vs):∃ k n,vs=[.int k n]∧¬ n < 0∧n.toNat=c:=by
 cases r with
 | sc k x =>
  cases k<;>simp only[cnt]at h
  case i =>
   split at h
   ·rename_i h0
    cases h; exact ⟨_,_,rfl,Int.not_lt.2 h0,rfl⟩
   ·cases h
  case b=>cases h
  all_goals (cases h; exact ⟨_,_,rfl,by omega,by simp⟩)
 | _=>simp[cnt]at h
theorem zrc (a b:Nat):(a:Int).fdiv (b:Int)=((a / b:Nat):Int):=by
 rw[Int.fdiv_eq_ediv_of_nonneg _ (by omega)]; rfl
theorem zkC (n:Nat):(2:Int) ^ n=((2 ^ n:Nat):Int):=by push_cast; rfl
theorem zIY {x:PV} {c:Nat} {r:PV} (h:zfh true x c=some r) {S hh vs} (hx:RepPV S hh x vs) (t:TypeId) (yk:IntKind) (n:Int) (hn:¬ n < 0) (hc:n.toNat=c) :
  ∃ a v,vs=[a]∧(Go.binOp .shl t a (.int yk n)).run P w=.ok v w∧∀ S hh,RepPV S hh r [v]:=by
 subst hc
 cases hx with
 | sc k x =>
  cases k<;>simp only[zfh]at h
  case b=>cases h
  case i =>
   cases h
   refine ⟨_,_,rfl,?_,fun S hh=>.sc .i _⟩
   simp only[EK.enc,Go.binOp,Op.shift,hn,if_false]
   rfl
  case u8 =>
   cases h
   refine ⟨_,_,rfl,?_,fun S hh=>.sc .u8 _⟩
   simp only[EK.enc,Go.binOp,Op.shift,hn,if_false,zIC,UInt8.toNat_ofNat',zkC]
   rw[←Int.natCast_mul,zcQ .u8 rfl]
   rfl
  case u16 =>
   cases h
   refine ⟨_,_,rfl,?_,fun S hh=>.sc .u16 _⟩
   simp only[EK.enc,Go.binOp,Op.shift,hn,if_false,zHp,UInt16.toNat_ofNat',zkC]
   rw[←Int.natCast_mul,zcQ .u16 rfl]
   rfl
  case u32 =>
   cases h
   refine ⟨_,_,rfl,?_,fun S hh=>.sc .u32 _⟩
   simp only[EK.enc,Go.binOp,Op.shift,hn,if_false,zcb,UInt32.toNat_ofNat',zkC]
   rw[←Int.natCast_mul,zcQ .u32 rfl]
   rfl
  case u64 =>
   cases h
   refine ⟨_,_,rfl,?_,fun S hh=>.sc .u64 _⟩
   simp only[EK.enc,Go.binOp,Op.shift,hn,if_false,zaq,UInt64.toNat_ofNat',zkC]
   rw[←Int.natCast_mul,zcQ .u64 rfl]
   rfl
 | _=>simp[zfh]at h
theorem zIZ {x:PV} {c:Nat} {r:PV} (h:zfh false x c=some r) {S hh vs} (hx:RepPV S hh x vs) (t:TypeId) (yk:IntKind) (n:Int) (hn:¬ n < 0) (hc:n.toNat=c) :
  ∃ a v,vs=[a]∧(Go.binOp .shr t a (.int yk n)).run P w=.ok v w∧∀ S hh,RepPV S hh r [v]:=by
 subst hc
 cases hx with
 | sc k x =>
  cases k<;>simp only[zfh]at h
  case b=>cases h
  case i =>
   cases h
   refine ⟨_,_,rfl,?_,fun S hh=>.sc .i _⟩
   simp only[EK.enc,Go.binOp,Op.shift,hn,if_false]
   rfl
  case u8 =>
   cases h
   refine ⟨_,_,rfl,?_,fun S hh=>.sc .u8 _⟩
   have hx:(x:UInt8).toNat < 2 ^ 8:=(UInt8.toNat_lt x)
   simp only[EK.enc,Go.binOp,Op.shift,hn,if_false,zIt,UInt8.toNat_ofNat',zkC,zrc]
   rw[Nat.mod_eq_of_lt (Nat.lt_of_le_of_lt (Nat.div_le_self _ _) hx)]
   rfl
  case u16 =>
   cases h
   refine ⟨_,_,rfl,?_,fun S hh=>.sc .u16 _⟩
   have hx:(x:UInt16).toNat < 2 ^ 16:=(UInt16.toNat_lt x)
   simp only[EK.enc,Go.binOp,Op.shift,hn,if_false,zHa,UInt16.toNat_ofNat',zkC,zrc]
   rw[Nat.mod_eq_of_lt (Nat.lt_of_le_of_lt (Nat.div_le_self _ _) hx)]
   rfl
  case u32 =>
   cases h
   refine ⟨_,_,rfl,?_,fun S hh=>.sc .u32 _⟩
   have hx:(x:UInt32).toNat < 2 ^ 32:=(UInt32.toNat_lt x)
   simp only[EK.enc,Go.binOp,Op.shift,hn,if_false,zaP,UInt32.toNat_ofNat',zkC,zrc]
   rw[Nat.mod_eq_of_lt (Nat.lt_of_le_of_lt (Nat.div_le_self _ _) hx)]
   rfl
  case u64 =>
   cases h
   refine ⟨_,_,rfl,?_,fun S hh=>.sc .u64 _⟩
   have hx:(x:UInt64).toNat < 2 ^ 64:=(UInt64.toNat_lt x)
   simp only[EK.enc,Go.binOp,Op.shift,hn,if_false,zaa,UInt64.toNat_ofNat',zkC,zrc]
   rw[Nat.mod_eq_of_lt (Nat.lt_of_le_of_lt (Nat.div_le_self _ _) hx)]
   rfl
 | _=>simp[zfh]at h
theorem zHA {to:IntKind} {x r:PV} (h:conv to x=some r) {S hh vs} (hx:RepPV S hh x vs) :
  ∃ k n,vs=[.int k n]∧∀ S hh,RepPV S hh r [.int to (to.wrap n)]:=by
 cases hx with
 | sc k x =>
  cases k<;>cases to<;>simp only[conv]at h
  case u8.i8=>cases h
  case u8.i16=>cases h
  case u8.i32=>cases h
  case u8.i64 =>
   cases h
   refine ⟨_,_,rfl,fun S hh=>?_⟩
   have hx:(x:UInt8).toNat < 2 ^ 8:=UInt8.toNat_lt x
   have e:IntKind.i64.wrap ((x:UInt8).toNat:Int)=((x:UInt8).toNat:Int):=by
    exact IntWalk.i64_in _ (by omega)
   rw[e]
   exact .sc .i _
  case u8.u8 =>
   cases h
   refine ⟨_,_,rfl,fun S hh=>?_⟩
   rw[zgk .u8 rfl _ (UInt8.toNat_lt x)]
   exact .sc .u8 _
  case u8.u16 =>
   cases h
   refine ⟨_,_,rfl,fun S hh=>?_⟩
   have hx:(x:UInt8).toNat < 2 ^ 8:=UInt8.toNat_lt x
   have e:IntKind.u16.wrap ((x:UInt8).toNat:Int)=(((UInt8.toUInt16 x).toNat:Nat):Int):=by
    rw[zcQ .u16 rfl]
    first | (simp[IntKind.bits]; done) | (simp[IntKind.bits]; omega)
   rw[e]
   exact .sc .u16 _
  case u8.u32 =>
   cases h
   refine ⟨_,_,rfl,fun S hh=>?_⟩
   have hx:(x:UInt8).toNat < 2 ^ 8:=UInt8.toNat_lt x
   have e:IntKind.u32.wrap ((x:UInt8).toNat:Int)=(((UInt8.toUInt32 x).toNat:Nat):Int):=by
    rw[zcQ .u32 rfl]
    first | (simp[IntKind.bits]; done) | (simp[IntKind.bits]; omega)
   rw[e]
   exact .sc .u32 _
  case u8.u64 =>
   cases h
   refine ⟨_,_,rfl,fun S hh=>?_⟩
   have hx:(x:UInt8).toNat < 2 ^ 8:=UInt8.toNat_lt x
   have e:IntKind.u64.wrap ((x:UInt8).toNat:Int)=(((UInt8.toUInt64 x).toNat:Nat):Int):=by
    rw[zcQ .u64 rfl]
    first | (simp[IntKind.bits]; done) | (simp[IntKind.bits]; omega)
   rw[e]
   exact .sc .u64 _
  case u16.i8=>cases h
  case u16.i16=>cases h
  case u16.i32=>cases h
  case u16.i64 =>
   cases h
   refine ⟨_,_,rfl,fun S hh=>?_⟩
   have hx:(x:UInt16).toNat < 2 ^ 16:=UInt16.toNat_lt x
   have e:IntKind.i64.wrap ((x:UInt16).toNat:Int)=((x:UInt16).toNat:Int):=by
    exact IntWalk.i64_in _ (by omega)
   rw[e]
   exact .sc .i _
  case u16.u8 =>
   cases h
   refine ⟨_,_,rfl,fun S hh=>?_⟩
   have hx:(x:UInt16).toNat < 2 ^ 16:=UInt16.toNat_lt x
   have e:IntKind.u8.wrap ((x:UInt16).toNat:Int)=(((UInt16.toUInt8 x).toNat:Nat):Int):=by
    rw[zcQ .u8 rfl]
    first | (simp[IntKind.bits]; done) | (simp[IntKind.bits]; omega)
   rw[e]
   exact .sc .u8 _
  case u16.u16 =>
   cases h
   refine ⟨_,_,rfl,fun S hh=>?_⟩
   rw[zgk .u16 rfl _ (UInt16.toNat_lt x)]
   exact .sc .u16 _
  case u16.u32 =>
   cases h
   refine ⟨_,_,rfl,fun S hh=>?_⟩
   have hx:(x:UInt16).toNat < 2 ^ 16:=UInt16.toNat_lt x
   have e:IntKind.u32.wrap ((x:UInt16).toNat:Int)=(((UInt16.toUInt32 x).toNat:Nat):Int):=by
    rw[zcQ .u32 rfl]
    first | (simp[IntKind.bits]; done) | (simp[IntKind.bits]; omega)
   rw[e]
   exact .sc .u32 _
  case u16.u64 =>
   cases h
   refine ⟨_,_,rfl,fun S hh=>?_⟩
   have hx:(x:UInt16).toNat < 2 ^ 16:=UInt16.toNat_lt x
   have e:IntKind.u64.wrap ((x:UInt16).toNat:Int)=(((UInt16.toUInt64 x).toNat:Nat):Int):=by
    rw[zcQ .u64 rfl]
    first | (simp[IntKind.bits]; done) | (simp[IntKind.bits]; omega)
   rw[e]
   exact .sc .u64 _
  case u32.i8=>cases h
  case u32.i16=>cases h
  case u32.i32=>cases h
  case u32.i64 =>
   cases h
   refine ⟨_,_,rfl,fun S hh=>?_⟩
   have hx:(x:UInt32).toNat < 2 ^ 32:=UInt32.toNat_lt x
   have e:IntKind.i64.wrap ((x:UInt32).toNat:Int)=((x:UInt32).toNat:Int):=by
    exact IntWalk.i64_in _ (by omega)
   rw[e]
   exact .sc .i _
  case u32.u8 =>
   cases h
   refine ⟨_,_,rfl,fun S hh=>?_⟩
   have hx:(x:UInt32).toNat < 2 ^ 32:=UInt32.toNat_lt x
   have e:IntKind.u8.wrap ((x:UInt32).toNat:Int)=(((UInt32.toUInt8 x).toNat:Nat):Int):=by
    rw[zcQ .u8 rfl]
    first | (simp[IntKind.bits]; done) | (simp[IntKind.bits]; omega)
   rw[e]
   exact .sc .u8 _
  case u32.u16 =>
   cases h
   refine ⟨_,_,rfl,fun S hh=>?_⟩
   have hx:(x:UInt32).toNat < 2 ^ 32:=UInt32.toNat_lt x
   have e:IntKind.u16.wrap ((x:UInt32).toNat:Int)=(((UInt32.toUInt16 x).toNat:Nat):Int):=by
    rw[zcQ .u16 rfl]
    first | (simp[IntKind.bits]; done) | (simp[IntKind.bits]; omega)
   rw[e]
   exact .sc .u16 _
  case u32.u32 =>
   cases h
   refine ⟨_,_,rfl,fun S hh=>?_⟩
   rw[zgk .u32 rfl _ (UInt32.toNat_lt x)]
   exact .sc .u32 _
  case u32.u64 =>
   cases h
   refine ⟨_,_,rfl,fun S hh=>?_⟩
   have hx:(x:UInt32).toNat < 2 ^ 32:=UInt32.toNat_lt x
   have e:IntKind.u64.wrap ((x:UInt32).toNat:Int)=(((UInt32.toUInt64 x).toNat:Nat):Int):=by
    rw[zcQ .u64 rfl]
    first | (simp[IntKind.bits]; done) | (simp[IntKind.bits]; omega)
   rw[e]
   exact .sc .u64 _
  case u64.i8=>cases h
  case u64.i16=>cases h
  case u64.i32=>cases h
  case u64.i64 =>
   cases h
   refine ⟨_,_,rfl,fun S hh=>?_⟩
   exact .sc .i _
  case u64.u8 =>
   cases h
   refine ⟨_,_,rfl,fun S hh=>?_⟩
   have hx:(x:UInt64).toNat < 2 ^ 64:=UInt64.toNat_lt x
   have e:IntKind.u8.wrap ((x:UInt64).toNat:Int)=(((UInt64.toUInt8 x).toNat:Nat):Int):=by
    rw[zcQ .u8 rfl]
    first | (simp[IntKind.bits]; done) | (simp[IntKind.bits]; omega)
   rw[e]
   exact .sc .u8 _
  case u64.u16 =>
   cases h
   refine ⟨_,_,rfl,fun S hh=>?_⟩
   have hx:(x:UInt64).toNat < 2 ^ 64:=UInt64.toNat_lt x
   have e:IntKind.u16.wrap ((x:UInt64).toNat:Int)=(((UInt64.toUInt16 x).toNat:Nat):Int):=by
    rw[zcQ .u16 rfl]
    first | (simp[IntKind.bits]; done) | (simp[IntKind.bits]; omega)
   rw[e]
   exact .sc .u16 _
  case u64.u32 =>
   cases h
   refine ⟨_,_,rfl,fun S hh=>?_⟩
   have hx:(x:UInt64).toNat < 2 ^ 64:=UInt64.toNat_lt x
   have e:IntKind.u32.wrap ((x:UInt64).toNat:Int)=(((UInt64.toUInt32 x).toNat:Nat):Int):=by
    rw[zcQ .u32 rfl]
    first | (simp[IntKind.bits]; done) | (simp[IntKind.bits]; omega)
   rw[e]
   exact .sc .u32 _
  case u64.u64 =>
   cases h
   refine ⟨_,_,rfl,fun S hh=>?_⟩
   rw[zgk .u64 rfl _ (UInt64.toNat_lt x)]
   exact .sc .u64 _
  case i.i8=>cases h
  case i.i16=>cases h
  case i.i32=>cases h
  case i.i64 =>
   cases h
   refine ⟨_,_,rfl,fun S hh=>?_⟩
   exact .sc .i _
  case i.u8 =>
   cases h
   refine ⟨_,_,rfl,fun S hh=>?_⟩
   have e:IntKind.u8.wrap (x:Int)=((UInt8.ofInt x).toNat:Int):=by
    simp only[UInt8.ofInt,UInt8.toNat_ofNat',IntKind.wrap,IntKind.signed,IntKind.bits,Bool.false_and,Bool.false_eq_true,if_false]
    omega
   rw[e]
   exact .sc .u8 _
  case i.u16 =>
   cases h
   refine ⟨_,_,rfl,fun S hh=>?_⟩
   have e:IntKind.u16.wrap (x:Int)=((UInt16.ofInt x).toNat:Int):=by
    simp only[UInt16.ofInt,UInt16.toNat_ofNat',IntKind.wrap,IntKind.signed,IntKind.bits,Bool.false_and,Bool.false_eq_true,if_false]
    omega
   rw[e]
   exact .sc .u16 _
  case i.u32 =>
   cases h
   refine ⟨_,_,rfl,fun S hh=>?_⟩
   have e:IntKind.u32.wrap (x:Int)=((UInt32.ofInt x).toNat:Int):=by
    simp only[UInt32.ofInt,UInt32.toNat_ofNat',IntKind.wrap,IntKind.signed,IntKind.bits,Bool.false_and,Bool.false_eq_true,if_false]
    omega
   rw[e]
   exact .sc .u32 _
  case i.u64 =>
   cases h
   refine ⟨_,_,rfl,fun S hh=>?_⟩
   have e:IntKind.u64.wrap (x:Int)=((UInt64.ofInt x).toNat:Int):=by
    simp only[UInt64.ofInt,UInt64.toNat_ofNat',IntKind.wrap,IntKind.signed,IntKind.bits,Bool.false_and,Bool.false_eq_true,if_false]
    omega
   rw[e]
   exact .sc .u64 _
  case b.i8=>cases h
  case b.i16=>cases h
  case b.i32=>cases h
  case b.i64=>cases h
  case b.u8=>cases h
  case b.u16=>cases h
  case b.u32=>cases h
  case b.u64=>cases h
 | _=>simp[conv]at h
end
end Go.Proofs.YtnolgfdjcipmmaaDoor.M
namespace Go.Proofs.YtnolgfdjcipmmaaDoor.M
open Go
theorem zw0 (v:Value):pack false [v]=v:=rfl
theorem zvv {agg:Bool} {vs:List Value} (h:agg=false→∃ v,vs=[v]∧v.cells=#[v]):(pack agg vs).cells=vs.toArray:=by
 cases agg with
 | true=>rfl
 | false =>
  obtain ⟨v,rfl,hv⟩:=h rfl
  simpa [pack] using hv
theorem zxX (k:EK) (x:k.T):(k.enc x).oneCell'=true:=by cases k<;>rfl
mutual
theorem RepPV.one {S:Nat→Prop} {h:Array Obj}:∀ {x vs},RepPV S h x vs→∀ v ∈ vs,v.oneCell'=true
 | _,_,.sc k x,v,hv=>by simp at hv; subst hv; exact zxX _ _
 | _,_,.arr k n u,v,hv=>by simp at hv; obtain ⟨a,_,rfl⟩:=hv; exact zxX _ _
 | _,_,.st r,v,hv=>RepL.one r v hv
 | _,_,.ar _ r,v,hv=>RepL.one r v hv
 | _,_,.sl _ _,v,hv=>by simp at hv; subst hv; rfl
 | _,_,.sp _ _ _ _,v,hv=>by simp at hv; subst hv; rfl
 | _,_,.nilp,v,hv=>by simp at hv; subst hv; rfl
 | _,_,.nilm,v,hv=>by simp at hv; subst hv; rfl
 | _,_,.raw h _,v,hv=>by simp at hv; subst hv; exact h
theorem RepL.one {S:Nat→Prop} {h:Array Obj}:∀ {xs vs},RepL S h xs vs→∀ v ∈ vs,v.oneCell'=true
 | _,_,.nil,v,hv=>by cases hv
 | _,_,.cons a r,v,hv=>by
  rcases List.mem_append.1 hv with hv | hv
  ·exact RepPV.one a v hv
  ·exact RepL.one r v hv
end
theorem RepPV.flat {S:Nat→Prop} {h:Array Obj} {x:PV} {vs:List Value} (r:RepPV S h x vs) (hx:x.isAgg=false):∃ v,vs=[v]∧v.cells=#[v]:=by
 cases r with
 | sc k x=>exact ⟨_,rfl,by cases k<;>rfl⟩
 | sl _ _=>exact ⟨_,rfl,rfl⟩
 | sp _ _ _ _=>exact ⟨_,rfl,rfl⟩
 | nilp=>exact ⟨_,rfl,rfl⟩
 | nilm=>exact ⟨_,rfl,rfl⟩
 | raw _ h=>exact ⟨_,rfl,h⟩
 | _=>simp[PV.isAgg]at hx
section
variable {β:Nat→Value} {S:Nat→Prop} {h:Array Obj} {L:Nat→Option Blk}
theorem RepA.pv {x:PV} {vs:List Value} (r:RepPV S h x vs):RepA β S h L (.pv x) (pack x.isAgg vs):=⟨vs,.pv r,rfl⟩
theorem RepA.pv1 {x:PV} {v:Value} (r:RepPV S h x [v]) (hx:x.isAgg=false):RepA β S h L (.pv x) v:=⟨[v],.pv r,by simp[A.isAgg,hx,pack]⟩
theorem RepA.sc (k:EK) (x:k.T):RepA β S h L (.pv (.sc k x)) (k.enc x):=RepA.pv1 (.sc k x) rfl
theorem RepA.pv_inv {x:PV} {v:Value} (r:RepA β S h L (.pv x) v):∃ vs,RepPV S h x vs∧v=pack x.isAgg vs:=by
 obtain ⟨vs,r,e⟩:=r
 cases r with
 | pv r=>exact ⟨vs,r,e⟩
theorem RepA.sc_inv {k:EK} {x:k.T} {v:Value} (r:RepA β S h L (.pv (.sc k x)) v):v=k.enc x:=by
 obtain ⟨vs,r,e⟩:=r.pv_inv
 cases r
 exact e
theorem RepA.bad (v:Value):RepA β S h L .bad v:=⟨[v],.bad,rfl⟩
theorem RepA.und:RepA β S h L .und undef:=⟨[undef],.und,rfl⟩
end
theorem zcn {α:Type}:∀ {l:List (Nat × α)} {n:Nat} {x:α},lk l n=some x→(n,x) ∈ l
 | [],_,_,h=>by simp[lk]at h
 | (m,y) :: r,n,x,h=>by
  rw[zaD]at h
  split at h
  ·rename_i e; subst e; cases h; simp
  ·exact List.mem_cons_of_mem _ (zcn h)
theorem zwb {β:Nat→Value} {S:Nat→Prop} {h:Array Obj} {L:Nat→Option Blk} (v:Value):RepA β S h L (zsr v) v:=by
 unfold zsr
 split
 ·exact RepA.sc .b _
 ·exact RepA.sc .i _
 ·split
  ·rename_i n hn
   have e:(Value.int .u8 n)=EK.enc .u8 (UInt8.ofNat n.toNat):=by
    simp only[EK.enc,UInt8.toNat_ofNat']
    congr 1; omega
   rw[e]; exact RepA.sc .u8 _
  ·exact RepA.bad _
 ·split
  ·rename_i n hn
   have e:(Value.int .u16 n)=EK.enc .u16 (UInt16.ofNat n.toNat):=by
    simp only[EK.enc,UInt16.toNat_ofNat']
    congr 1; omega
   rw[e]; exact RepA.sc .u16 _
  ·exact RepA.bad _
 ·split
  ·rename_i n hn
   have e:(Value.int .u32 n)=EK.enc .u32 (UInt32.ofNat n.toNat):=by
    simp only[EK.enc,UInt32.toNat_ofNat']
    congr 1; omega
   rw[e]; exact RepA.sc .u32 _
  ·exact RepA.bad _
 ·split
  ·rename_i n hn
   have e:(Value.int .u64 n)=EK.enc .u64 (UInt64.ofNat n.toNat):=by
    simp only[EK.enc,UInt64.toNat_ofNat']
    congr 1; omega
   rw[e]; exact RepA.sc .u64 _
  ·exact RepA.bad _
 ·exact RepA.pv1 .nilp rfl
 ·exact RepA.pv1 .nilm rfl
 ·exact RepA.bad _
section
variable {β:Nat→Value} {S:Nat→Prop} {h:Array Obj} {L:Nat→Option Blk} {P:Program} {w:World}
theorem zly {l:Bool} {x r:PV} {c:Nat} (hr:zfh l x c=some r):x.isAgg=false∧r.isAgg=false:=by
 cases x with
 | sc k x=>cases l<;>cases k<;>simp[zfh]at hr<;>subst hr<;>exact ⟨rfl,rfl⟩
 | _=>cases l<;>simp[zfh]at hr
theorem zHd {op:BinOp} {x y r} (hr:zp4 op x y=some r):r.isAgg=false:=by
 cases op<;>simp[zp4]at hr<;>first | (subst hr; rfl) | (obtain ⟨_,rfl⟩:=hr; rfl)
theorem zEg {op:BinOp} {x y r} (hr:zkX op x y=some r):r.isAgg=false:=by
 cases op<;>simp[zkX]at hr<;>first | (subst hr; rfl) | (obtain ⟨_,rfl⟩:=hr; rfl)
theorem zEK {op:BinOp} {x y r} (hr:zkB op x y=some r):r.isAgg=false:=by
 cases op<;>simp[zkB]at hr<;>first | (subst hr; rfl) | (obtain ⟨_,rfl⟩:=hr; rfl)
theorem zE9 {op:BinOp} {x y r} (hr:zlj op x y=some r):r.isAgg=false:=by
 cases op<;>simp[zlj]at hr<;>first | (subst hr; rfl) | (obtain ⟨_,rfl⟩:=hr; rfl)
theorem zH9 {op:BinOp} {x y r} (hr:zFq op x y=some r):r.isAgg=false:=by
 cases op<;>simp[zFq]at hr<;>first | (subst hr; rfl) | (obtain ⟨_,rfl⟩:=hr; rfl)
theorem zA2 {op:BinOp} {x y r:PV} (hr:zuk op x y=some r) {va vb:Value} (hx:RepA β S h L (.pv x) va) (hy:RepA β S h L (.pv y) vb) (t:TypeId) :
  ∃ v,(Go.binOp op t va vb).run P w=.ok v w∧RepA β S h L (.pv r) v:=by
 obtain ⟨as,ra,ea⟩:=hx.pv_inv
 obtain ⟨bs,rb,eb⟩:=hy.pv_inv
 unfold zuk at hr
 split at hr
 ·rename_i x y
  simp only[Option.bind_eq_some_iff]at hr
  obtain ⟨c,hc,hr⟩:=hr
  obtain ⟨yk,n,rfl,hn,hnc⟩:=zG9 hc rb
  obtain ⟨a,v,rfl,h1,h2⟩:=zIY P w hr ra t yk n hn hnc
  have ya:∀ y:PV,cnt y=some c→y.isAgg=false:=fun y hc=>by cases y<;>first | rfl | simp[cnt]at hc
  exact ⟨v,by rw[ea,eb,(zly hr).1,ya _ hc]; exact h1,RepA.pv1 (h2 S h) (zly hr).2⟩
 ·rename_i x y
  simp only[Option.bind_eq_some_iff]at hr
  obtain ⟨c,hc,hr⟩:=hr
  obtain ⟨yk,n,rfl,hn,hnc⟩:=zG9 hc rb
  obtain ⟨a,v,rfl,h1,h2⟩:=zIZ P w hr ra t yk n hn hnc
  have ya:∀ y:PV,cnt y=some c→y.isAgg=false:=fun y hc=>by cases y<;>first | rfl | simp[cnt]at hc
  exact ⟨v,by rw[ea,eb,(zly hr).1,ya _ hc]; exact h1,RepA.pv1 (h2 S h) (zly hr).2⟩
 ·cases ra; cases rb
  obtain ⟨v,h1,h2⟩:=zoT P w op t _ _ r hr
  exact ⟨v,by rw[ea,eb]; exact h1,RepA.pv1 (h2 S h) (zHd hr)⟩
 ·cases ra; cases rb
  obtain ⟨v,h1,h2⟩:=zmx P w op t _ _ r hr
  exact ⟨v,by rw[ea,eb]; exact h1,RepA.pv1 (h2 S h) (zEg hr)⟩
 ·cases ra; cases rb
  obtain ⟨v,h1,h2⟩:=znm P w op t _ _ r hr
  exact ⟨v,by rw[ea,eb]; exact h1,RepA.pv1 (h2 S h) (zEK hr)⟩
 ·cases ra; cases rb
  obtain ⟨v,h1,h2⟩:=znB P w op t _ _ r hr
  exact ⟨v,by rw[ea,eb]; exact h1,RepA.pv1 (h2 S h) (zE9 hr)⟩
 ·cases ra; cases rb
  obtain ⟨v,h1,h2⟩:=zGG P w op t _ _ r hr
  exact ⟨v,by rw[ea,eb]; exact h1,RepA.pv1 (h2 S h) (zH9 hr)⟩
 ·cases hr
theorem zJp {op:UnOp} {x r:PV} (hr:un op x=some r) {va:Value} (hx:RepA β S h L (.pv x) va) :
  ∃ v,(Op.unary op va).run P w=.ok v w∧RepA β S h L (.pv r) v:=by
 obtain ⟨as,ra,ea⟩:=hx.pv_inv
 unfold un at hr
 split at hr<;>first | (cases hr; cases ra; skip) | cases hr
 ·exact ⟨_,by rw[ea]; rfl,RepA.sc .b _⟩
 ·exact ⟨_,by rw[ea]; rfl,RepA.sc .i _⟩
 ·exact ⟨_,by rw[ea]; rfl,RepA.sc .i _⟩
 ·rename_i x
  have hr:zp4 .sub (0:UInt8) x=some (.sc .u8 ((0:UInt8) - x)):=rfl
  obtain ⟨v,h1,h2⟩:=zoT P w .sub 0 _ _ _ hr
  exact ⟨v,by rw[ea]; exact h1,RepA.pv1 (h2 S h) rfl⟩
 ·rename_i x
  have e:(~~~ x:UInt8)=UInt8.ofNat (2 ^ 8 - 1) ^^^ x:=by
   rw[show UInt8.ofNat (2 ^ 8 - 1)=(-1:UInt8)from by decide +kernel,UInt8.neg_one_xor]
  have hr:zp4 .xor (UInt8.ofNat (2 ^ 8 - 1)) x=some (.sc .u8 (~~~ x:UInt8)):=by rw[e]; rfl
  obtain ⟨v,h1,h2⟩:=zoT P w .xor 0 _ _ _ hr
  exact ⟨v,by rw[ea]; exact h1,RepA.pv1 (h2 S h) rfl⟩
 ·rename_i x
  have hr:zkX .sub (0:UInt16) x=some (.sc .u16 ((0:UInt16) - x)):=rfl
  obtain ⟨v,h1,h2⟩:=zmx P w .sub 0 _ _ _ hr
  exact ⟨v,by rw[ea]; exact h1,RepA.pv1 (h2 S h) rfl⟩
 ·rename_i x
  have e:(~~~ x:UInt16)=UInt16.ofNat (2 ^ 16 - 1) ^^^ x:=by
   rw[show UInt16.ofNat (2 ^ 16 - 1)=(-1:UInt16)from by decide +kernel,UInt16.neg_one_xor]
  have hr:zkX .xor (UInt16.ofNat (2 ^ 16 - 1)) x=some (.sc .u16 (~~~ x:UInt16)):=by rw[e]; rfl
  obtain ⟨v,h1,h2⟩:=zmx P w .xor 0 _ _ _ hr
  exact ⟨v,by rw[ea]; exact h1,RepA.pv1 (h2 S h) rfl⟩
 ·rename_i x
  have hr:zkB .sub (0:UInt32) x=some (.sc .u32 ((0:UInt32) - x)):=rfl
  obtain ⟨v,h1,h2⟩:=znm P w .sub 0 _ _ _ hr
  exact ⟨v,by rw[ea]; exact h1,RepA.pv1 (h2 S h) rfl⟩
 ·rename_i x
  have e:(~~~ x:UInt32)=UInt32.ofNat (2 ^ 32 - 1) ^^^ x:=by
   rw[show UInt32.ofNat (2 ^ 32 - 1)=(-1:UInt32)from by decide +kernel,UInt32.neg_one_xor]
  have hr:zkB .xor (UInt32.ofNat (2 ^ 32 - 1)) x=some (.sc .u32 (~~~ x:UInt32)):=by rw[e]; rfl
  obtain ⟨v,h1,h2⟩:=znm P w .xor 0 _ _ _ hr
  exact ⟨v,by rw[ea]; exact h1,RepA.pv1 (h2 S h) rfl⟩
 ·rename_i x
  have hr:zlj .sub (0:UInt64) x=some (.sc .u64 ((0:UInt64) - x)):=rfl
  obtain ⟨v,h1,h2⟩:=znB P w .sub 0 _ _ _ hr
  exact ⟨v,by rw[ea]; exact h1,RepA.pv1 (h2 S h) rfl⟩
 ·rename_i x
  have e:(~~~ x:UInt64)=UInt64.ofNat (2 ^ 64 - 1) ^^^ x:=by
   rw[show UInt64.ofNat (2 ^ 64 - 1)=(-1:UInt64)from by decide +kernel,UInt64.neg_one_xor]
  have hr:zlj .xor (UInt64.ofNat (2 ^ 64 - 1)) x=some (.sc .u64 (~~~ x:UInt64)):=by rw[e]; rfl
  obtain ⟨v,h1,h2⟩:=znB P w .xor 0 _ _ _ hr
  exact ⟨v,by rw[ea]; exact h1,RepA.pv1 (h2 S h) rfl⟩
theorem zHj {to:IntKind} {x r:PV} (hr:conv to x=some r):x.isAgg=false∧r.isAgg=false:=by
 cases x with
 | sc k x=>cases k<;>cases to<;>simp[conv]at hr<;>subst hr<;>exact ⟨rfl,rfl⟩
 | _=>cases to<;>simp[conv]at hr
theorem zD1 {s d:TypeId} {x r:A} (hr:zDe P s d x=some r) {va:Value} (hx:RepA β S h L x va) :
  ∃ v,(Go.convert s d va).run P w=.ok v w∧RepA β S h L r v:=by
 unfold zDe at hr
 split at hr
 ·rename_i x
  split at hr
  ·rename_i ks kd e1 e2
   simp only[Option.map_eq_some_iff]at hr
   obtain ⟨z,hz,rfl⟩:=hr
   obtain ⟨as,ra,ea⟩:=hx.pv_inv
   obtain ⟨k,n,rfl,h2⟩:=zHA hz ra
   have xa:=(zHj hz).1
   have za:=(zHj hz).2
   refine ⟨_,?_,RepA.pv1 (h2 S h) za⟩
   rw[ea,xa,zw0]
   simp only[Go.convert,Sem.run_bind,run_underlying e1,run_underlying e2,Result.andThen_ok,Conv.intToInt]
   rfl
  ·cases hr
 ·cases hr
end
end Go.Proofs.YtnolgfdjcipmmaaDoor.M
namespace Go.Proofs.YtnolgfdjcipmmaaDoor.M
open Go
theorem zel (b o i:Nat):(⟨b,o,none⟩:Addr).add i=⟨b,o+i,none⟩:=by
 unfold Addr.add
 split
 ·rename_i e; subst e; rfl
 ·rfl
theorem CellsAt.cell {w:World} {b off:Nat} {vs:List Value} (hc:CellsAt w.heap b off vs) {j:Nat} {v:Value} (hv:vs[j]?=some v):w.cell? ⟨b,off+j,none⟩=some v:=by
 obtain ⟨c,T,fz,h1,h2⟩:=hc
 simp[World.cell?,h1,h2 j v hv]
theorem CellsAt.of_list {h:Array Obj} {b:Nat} {cs:Array Value} {T:TypeId} {fz:Nat × Nat} (hb:h[b]?=some (.cells cs T fz)) {X us Y:List Value} (hc:cs.toList=X++us++Y) :
  CellsAt h b X.length us:=by
 refine ⟨cs,T,fz,hb,fun i v hv=>?_⟩
 rw[←Array.getElem?_toList,hc,List.append_assoc,List.getElem?_append_right (by omega)]
 have hi:i < us.length:=by
  rcases Nat.lt_or_ge i us.length with h | h
  ·exact h
  ·rw[List.getElem?_eq_none h]at hv; cases hv
 rw[show X.length+i - X.length=i from by omega,List.getElem?_append_left hi,hv]
theorem CellsAt.sub {h:Array Obj} {b o:Nat} {vs:List Value} (hc:CellsAt h b o vs) {X us Y:List Value} (e:vs=X++us++Y):CellsAt h b (o+X.length) us:=by
 obtain ⟨c,T,fz,h1,h2⟩:=hc
 refine ⟨c,T,fz,h1,fun i v hv=>?_⟩
 have hi:i < us.length:=by
  rcases Nat.lt_or_ge i us.length with h | h
  ·exact h
  ·rw[List.getElem?_eq_none h]at hv; cases hv
 have:=h2 (X.length+i) v (by
  rw[e,List.append_assoc,List.getElem?_append_right (by omega),show X.length+i - X.length=i from by omega,List.getElem?_append_left hi,hv])
 rwa [←Nat.add_assoc]at this
section
variable {P:Program} {w:World}
theorem zyX {t:TypeId} (h:(P.underlying t).isSome=true):(isAgg t).run P w=.ok (aggT P t) w:=by
 obtain ⟨d,hd⟩:=Option.isSome_iff_exists.1 h
 unfold isAgg aggT
 rw[Sem.run_bind,run_underlying hd w,hd]
 cases d<;>rfl
theorem zpO {t:TypeId} {b off:Nat} {us:List Value} (hc:CellsAt w.heap b off us) (hs:szT P t=some us.length) (hu:(P.underlying t).isSome=true)
  (h1:aggT P t=false→us.length=1):(loadVar t ⟨b,off,none⟩).run P w=.ok (pack (aggT P t) us) w:=by
 have hl:(loadCells ⟨b,off,none⟩ us.length).run P w=.ok us.toArray w :=
  run_loadCells_list (P:=P) w ⟨b,off,none⟩ us (fun j v hv=>by rw[zel]; exact hc.cell hv)
 unfold szT at hs
 cases hq:P.info? t with
 | none=>simp[hq]at hs
 | some i =>
  have hs:i.size=us.length:=by simpa [hq] using hs
  unfold loadVar
  rw[Sem.run_bind,zyX hu]
  cases e:aggT P t with
  | true=>simp[sizeOf,typeInfo,hq,hs,hl,pack]
  | false =>
   obtain ⟨v,rfl⟩:∃ v,us=[v]:=List.length_eq_one_iff.1 (h1 e)
   have:=hc.cell (j:=0) (v:=v) rfl
   simp only[Nat.add_zero]at this
   simp[this,pack]
theorem zog {t:TypeId} {b:Nat} {cs:Array Value} {T:TypeId} {X us us' Y:List Value} (hb:w.heap[b]?=some (.cells cs T (0,0))) (hc:cs.toList=X++us++Y)
  (hl:us.length=us'.length) (hs:szT P t=some us'.length) (h1:∀ v ∈ us',v.oneCell'=true) (v:Value) (hv:v.cells=us'.toArray) :
  ∃ cs',cs'.toList=X++us' ++ Y∧(storeVar t ⟨b,X.length,none⟩ v).run P w=.ok () (w.setRow b cs'):=by
 have hlen:cs.toList.length=X.length+us.length+Y.length:=by rw[hc]; simp[Nat.add_assoc]
 have hst:=run_storeCells_at P b X.length T us' 0 cs w hb (by simp at hlen ⊢; omega) h1
 have e:cs.toList.take (X.length+0)++us' ++ cs.toList.drop (X.length+0+us'.length)=X++us' ++ Y:=by
  simp only[Nat.add_zero]
  rw[hc,←hl,show X.length+us.length=(X++us).length from by simp,List.drop_left,List.append_assoc X us Y,List.take_left]
 rw[e]at hst
 refine ⟨(X++us' ++ Y).toArray,by simp,?_⟩
 unfold szT at hs
 cases hq:P.info? t with
 | none=>simp[hq]at hs
 | some i =>
  have hs:i.size=us'.length:=by simpa [hq] using hs
  unfold storeVar
  simp only[Sem.run_bind,sizeOf,typeInfo,Sem.run_bind,run_program,Result.andThen_ok,hq,Sem.run_pure,hv,hs]
  simp only[List.size_toArray,ne_eq,not_true,if_false]
  simpa using hst
theorem zm2 {b:Nat} {cs cs':Array Value} {T:TypeId} {fz:Nat × Nat} (hb:w.heap[b]?=some (.cells cs T fz)) (k:Nat) :
  (w.setRow b cs').heap[k]?=if k=b then some (.cells cs' T fz)else w.heap[k]?:=by
 by_cases e:k=b
 ·subst e; rw[if_pos rfl]; exact setRow_heap w k cs cs' T fz hb
 ·rw[if_neg e]
  simp only[World.setRow,Array.getElem?_modify]
  rw[if_neg (fun h=>e h.symm)]
end
section
variable {β:Nat→Value} {S:Nat→Prop} {h:Array Obj} {L:Nat→Option Blk}
def zF1 (β:Nat→Value) (S:Nat→Prop) (h:Array Obj) (L:Nat→Option Blk) (o:Nat):Blk→List Value→Prop
 | .box c,cs=>RepC β S h L c cs
 | .row rc _,cs=>∃ X vs Y,cs=X++vs++Y∧X.length=o∧RepRC S h rc vs
 | .map _,_=>True
theorem RC.ok_len {rc:RC} {π:List PE} (h:rc.ok π):0 < rc.len:=by
 cases rc<;>cases π with
 | nil=>simp[RC.ok]at h
 | cons q π=>cases q<;>cases π<;>simp[RC.ok]at h<;>simp[RC.len]<;>omega
theorem place {N0:Nat} {F:Nat→Prop} (M:MS β S h N0 F L) {n:Nat} {blk:Blk} (hL:L n=some blk) {π:List PE} (ok:blk.ok π) {b o:Nat} (hb:zbT (β n)=some ⟨b,o,none⟩) :
  ∃ cs T X us Y,h[b]?=some (.cells cs T (0,0))∧fp (β n) b∧cs.toList=X++us++Y∧X.length=o+blk.off π∧RepC β S h L (blk.get π) us ∧
   ∀ y us' blk',RepC β S h L y us'→y.size=(blk.get π).size→blk.set π y=some blk'→zF1 β S h L o blk' (X++us' ++ Y):=by
 have hk:=M.blk n blk hL
 cases blk with
 | box c =>
  obtain ⟨b',cs,T,e1,e2,e3⟩:=hk
  rw[e1]at hb
  simp only[zbT,Option.some.injEq,Addr.mk.injEq]at hb
  obtain ⟨rfl,rfl,_⟩:=hb
  obtain ⟨X,us,Y,q1,q2,q3,q4⟩:=e3.part π ok
  refine ⟨cs,T,X,us,Y,e2,by rw[e1]; rfl,q1,by simpa [Blk.off] using q2,q3,fun y us' blk' hy hs hx=>?_⟩
  simp only[Blk.set,Option.map_eq_some_iff]at hx
  obtain ⟨c',hc,rfl⟩:=hx
  exact q4 y us' c' hy hs hc
 | row rc ex =>
  obtain ⟨a,cap,e1,e2,e3,e4⟩:=hk
  have hlen:=RC.ok_len ok
  rcases e4 with e4 | ⟨b',o',cs,T,q1,q2,q3,X0,vs,Y0,q4,q5,q6⟩
  ·omega
  ·rw[e1,q1]at hb
   simp only[zbT,Option.some.injEq,Addr.mk.injEq]at hb
   obtain ⟨rfl,rfl,_⟩:=hb
   obtain ⟨X,us,Y,r1,r2,r3,r4⟩:=q6.part ok
   refine ⟨cs,T,X0++X,us,Y++Y0,q2,by rw[e1,q1]; exact ⟨by omega,rfl⟩,by simp[q4,r1],by simp[q5,r2,Blk.off],.pv r3,fun y us' blk' hy hs hx=>?_⟩
   cases y<;>simp[Blk.set,Option.map_eq_some_iff]at hx
   obtain ⟨rc',hc,rfl⟩:=hx
   cases hy with
   | pv hy=>exact ⟨X0,X++us' ++ Y,Y0,by simp,q5,r4 _ us' rc' hy hs hc⟩
 | map kv=>exact ok.elim
theorem RepRC.sub {rc:RC} {vs:List Value} (r:RepRC S h rc vs) (off len:Nat) (hl:off+len≤rc.len) :
  ∃ X us Y,vs=X++us++Y∧X.length=off*rc.sz∧RepRC S h (rc.sub off len) us:=by
 cases r with
 | s k xs =>
  refine ⟨(xs.take off).map k.enc,((xs.drop off).take len).map k.enc,(xs.drop (off+len)).map k.enc,?_,?_,.s _ _⟩
  ·rw[←List.map_append,←List.map_append,List.append_assoc,←List.drop_drop,List.take_append_drop,List.take_append_drop]
  ·simp only[RC.len]at hl
   simp[RC.sz]; omega
 | p e r =>
  rename_i sz xs
  simp only[RC.len]at hl
  have:∀ (n:Nat) (xs:List PV) (vs:List Value),RepL S h xs vs→(∀ x ∈ xs,x.size=sz)→n≤xs.length→RepL S h (xs.take n) (vs.take (n*sz))∧RepL S h (xs.drop n) (vs.drop (n*sz)):=by
   intro n xs vs r
   induction n generalizing xs vs with
   | zero=>intro _ _; simpa using ⟨RepL.nil,r⟩
   | succ n ih =>
    intro e hn
    cases r with
    | nil=>simp at hn
    | cons a r =>
     rename_i x vs xs us
     obtain ⟨i1,i2⟩:=ih xs us r (fun y hy=>e y (by simp[hy])) (by simpa using hn)
     have hv:vs.length=sz:=by rw[RepPV.size a]; exact e x (by simp)
     have ea:(n+1)*sz=vs.length+n*sz:=by rw[hv,Nat.add_mul]; omega
     rw[ea]
     refine ⟨?_,?_⟩
     ·rw[List.take_append]; simpa [List.take_of_length_le] using RepL.cons a i1
     ·rw[show (vs++us).drop (vs.length+n*sz)=us.drop (n*sz)from by rw[←List.drop_drop,List.drop_left]]; simpa using i2
  obtain ⟨_,h2⟩:=this off xs vs r e (by omega)
  obtain ⟨h3,_⟩:=this len (xs.drop off) _ h2 (fun x hx=>e x (List.mem_of_mem_drop hx)) (by simp; omega)
  have hvs:=r.size
  rw[zlv e]at hvs
  refine ⟨vs.take (off*sz),(vs.drop (off*sz)).take (len*sz),vs.drop (off*sz+len*sz),?_,?_,.p (fun x hx=>e x (List.mem_of_mem_drop (List.mem_of_mem_take hx))) h3⟩
  ·rw[List.append_assoc,←List.drop_drop,List.take_append_drop,List.take_append_drop]
  ·have:off*sz≤xs.length*sz:=Nat.mul_le_mul_right _ (by omega)
   rw[List.length_take,hvs,Nat.min_eq_left this]
   rfl
theorem RepRC.arr {rc:RC} {vs:List Value} {off len:Nat} (r:RepRC S h (rc.sub off len) vs) (hl:off+len≤rc.len):RepPV S h (rc.arr off len) vs:=by
 cases rc with
 | s k xs =>
  cases r with
  | s _ _ =>
   have:(xs.drop off).take len=(Vector.ofFn fun i:Fin len=>xs.getD (off+i) k.zero).toList:=by
    simp only[RC.len]at hl
    apply List.ext_getElem
    ·simp; omega
    ·intro i h1 h2
     simp at h1 h2
     simp[List.getD,show off+i < xs.length from by omega]
   rw[this]
   exact .arr _ _ _
 | p sz xs =>
  cases r with
  | p e r=>exact .ar e r
theorem zDp {N0:Nat} {F:Nat→Prop} (M:MS β S h N0 F L) {n:Nat} {blk:Blk} (hL:L n=some blk) {π:List PE} (ok:blk.okv π) {b o:Nat} (hb:zbT (β n)=some ⟨b,o,none⟩)
  {rc:RC} (he:blk.elems π=some rc) (hpos:0 < rc.len):∃ vs cs T X Y,RepRC S h rc vs∧h[b]?=some (.cells cs T (0,0))∧fp (β n) b∧cs.toList=X++vs++Y∧X.length=o+blk.off π:=by
 have gen:∀ blk:Blk,L n=some blk→blk.ok π→(blk.get π).elems=some rc →
   ∃ vs cs T X Y,RepRC S h rc vs∧h[b]?=some (.cells cs T (0,0))∧fp (β n) b∧cs.toList=X++vs++Y∧X.length=o+blk.off π:=by
  intro blk hL ok he
  obtain ⟨cs,T,X,us,Y,q1,q0,q2,q3,q4,_⟩:=place M hL ok hb
  refine ⟨us,cs,T,X,Y,?_,q1,q0,q2,q3⟩
  cases hx:blk.get π with
  | pv x =>
   rw[hx]at he q4
   cases q4 with
   | pv q4 =>
    cases q4 with
    | arr k n v=>simp[A.elems]at he; subst he; exact .s _ _
    | ar e r=>simp[A.elems]at he; subst he; exact .p e r
    | _=>simp[A.elems]at he
  | _=>rw[hx]at he; simp[A.elems]at he
 cases blk with
 | box c=>exact gen _ hL (by cases π<;>exact ok) (by simpa [Blk.elems] using he)
 | row r ex =>
  cases π with
  | cons q π=>exact gen _ hL ok he
  | nil =>
   simp only[Blk.elems,Option.some.injEq]at he
   subst he
   obtain ⟨a,cap,e1,e2,e3,e4⟩:=M.blk n _ hL
   rcases e4 with e4 | ⟨b',o',cs,T,q1,q2,q3,X0,vs,Y0,q4,q5,q6⟩
   ·omega
   ·rw[e1,q1]at hb
    simp only[zbT,Option.some.injEq,Addr.mk.injEq]at hb
    obtain ⟨rfl,rfl,_⟩:=hb
    refine ⟨vs,cs,T,X0,Y0,q6,q2,by rw[e1,q1]; exact ⟨by omega,rfl⟩,q4,?_⟩
    rw[q5]
    cases r<;>rfl
 | map kv=>simp[Blk.elems,Blk.get,A.elems]at he
theorem zJb {P:Program} {w:World} {N0:Nat} {F:Nat→Prop} (M:MS β S w.heap N0 F L) {t:TypeId} {x r:A} {v:Value} (hr:zgX P L t x=some r) (hx:RepA β S w.heap L x v) :
  ∃ u,(Instr.loadAt t v).run P w=.ok u w∧RepA β S w.heap L r u:=by
 obtain ⟨vs,rx,ev⟩:=hx
 have fin:∀ {y:A} {us:List Value} {b off:Nat},fits P t y=true→RepC β S w.heap L y us→CellsAt w.heap b off us →
   ∃ u,(Instr.loadAt t (.pointer (some ⟨b,off,none⟩))).run P w=.ok u w∧RepA β S w.heap L y u:=by
  intro y us b off hf hy hc
  simp only[fits,Bool.and_eq_true,beq_iff_eq]at hf
  obtain ⟨⟨f1,f2⟩,f3⟩:=hf
  have hsz:=hy.size
  refine ⟨pack (aggT P t) us,?_,us,hy,by rw[f2]⟩
  simp only[Instr.loadAt,Instr.sureAddr,Sem.run_bind,Sem.run_pure,Result.andThen_ok]
  refine zpO hc (by rw[f1,hsz]) f3 (fun e=>?_)
  rw[←f2]at e
  cases hy with
  | pv q =>
   obtain ⟨u,rfl,_⟩:=q.flat e
   rfl
  | st _=>cases e
  | _=>rfl
 unfold zgX at hr
 split at hr
 ·rename_i n π
  simp only[Option.bind_eq_some_iff]at hr
  obtain ⟨blk,hL,hr⟩:=hr
  split at hr
  ·rename_i hf
   cases hr
   cases rx with
   | p e1 e2 e3 =>
    rw[hL]at e1; cases e1
    obtain ⟨cs,T,X,us,Y,q1,_,q2,q3,q4,_⟩:=place M hL e2 e3
    have hc:=CellsAt.of_list q1 q2
    rw[q3]at hc
    rw[ev]
    exact fin hf q4 hc
  ·cases hr
 ·rename_i x
  split at hr
  ·rename_i hf
   cases hr
   cases rx with
   | rp s1 s2 s3 =>
    rw[ev]
    exact fin hf (.pv s3) s2
  ·cases hr
 ·rename_i n π off len
  simp only[Option.bind_eq_some_iff]at hr
  obtain ⟨blk,hL,rc,hrc,hr⟩:=hr
  split at hr
  ·rename_i hf
   cases hr
   cases rx with
   | pr e1 e2 e3 e4 e5 e6 =>
    rw[hL]at e1; cases e1
    rw[Blk.elems_len,hrc]at e4
    simp only[Option.map_some,Option.some.injEq,Prod.mk.injEq]at e4
    obtain ⟨rfl,rfl⟩:=e4
    obtain ⟨vs',cs,T,X,Y,g1,g2,_,g3,g4⟩:=zDp M hL e2 e3 hrc (by omega)
    obtain ⟨X',us,Y',f1,f2,f3⟩:=g1.sub off len e5
    have hc:=CellsAt.of_list g2 g3
    have hc:=hc.sub f1
    rw[g4,f2]at hc
    rw[ev]
    exact fin hf (.pv (f3.arr e5)) hc
  ·cases hr
 ·cases hr
end
end Go.Proofs.YtnolgfdjcipmmaaDoor.M
namespace Go.Proofs.YtnolgfdjcipmmaaDoor.M
open Go
theorem nbeq {a b:Nat}:Nat.beq a b=true↔a=b:=⟨Nat.eq_of_beq_eq_true,fun h=>by subst h; simp⟩
def PV.elems:PV→Option RC
 | .arr k _ v=>some (.s k v.toList)
 | .ar sz xs=>some (.p sz xs)
 | _=>none
theorem A.elems_pv (x:PV):(A.pv x).elems=x.elems:=by cases x<;>rfl
theorem PV.snoc_i:∀ (π:List PE) {x:PV} {rc:RC} {j:Nat},x.ok π→(x.get π).elems=some rc→j < rc.len→x.ok (π++[.i j])∧x.off (π++[.i j])=x.off π+j*rc.sz
 | [],x,rc,j,_,he,hj=>by
  rw[PV.get_nil]at he
  cases x<;>simp[PV.elems]at he
  ·subst he
   simp only[RC.len]at hj
   exact ⟨by simpa [PV.ok] using hj,by simp[PV.off,RC.sz]⟩
  ·subst he
   simp only[RC.len]at hj
   refine ⟨by simp only[List.nil_append,PV.ok]; exact ⟨hj,trivial⟩,by simp[PV.off,RC.sz,PV.off_nil]⟩
 | e :: π,x,rc,j,ok,he,hj=>by
  cases x with
  | arr k n v =>
   cases e with
   | f j=>simp[PV.ok]at ok
   | i j =>
    cases π with
    | nil=>simp[PV.get,PV.elems]at he
    | cons _ _=>simp[PV.ok]at ok
  | st fs =>
   cases e with
   | i j=>simp[PV.ok]at ok
   | f q =>
    simp only[PV.ok]at ok
    simp only[PV.get]at he
    obtain ⟨h1,h2⟩:=PV.snoc_i π ok.2 he hj
    exact ⟨by simp only[List.cons_append,PV.ok]; exact ⟨ok.1,h1⟩,by simp only[List.cons_append,PV.off,h2]; omega⟩
  | ar sz xs =>
   cases e with
   | f j=>simp[PV.ok]at ok
   | i q =>
    simp only[PV.ok]at ok
    simp only[PV.get]at he
    obtain ⟨h1,h2⟩:=PV.snoc_i π ok.2 he hj
    exact ⟨by simp only[List.cons_append,PV.ok]; exact ⟨ok.1,h1⟩,by simp only[List.cons_append,PV.off,h2]; omega⟩
  | _=>simp[PV.ok]at ok
theorem A.snoc_i (π:List PE):∀ {x:A} {rc:RC} {j:Nat},x.ok π→(x.get π).elems=some rc→j < rc.len→x.ok (π++[.i j])∧x.off (π++[.i j])=x.off π+j*rc.sz:=by
 induction π with
 | nil =>
  intro x rc j ok he hj
  rw[A.get_nil]at he
  cases x with
  | pv x =>
   rw[A.elems_pv]at he
   obtain ⟨h1,h2⟩:=PV.snoc_i [] (PV.ok_nil x) (by rw[PV.get_nil]; exact he) hj
   exact ⟨(A.ok_pv _ _).2 h1,by rw[A.off_pv,A.off_pv,h2]⟩
  | _=>simp[A.elems]at he
 | cons e π ih =>
  intro x rc j ok he hj
  cases x with
  | pv x =>
   rw[A.get_pv,A.elems_pv]at he
   obtain ⟨h1,h2⟩:=PV.snoc_i (e :: π) ((A.ok_pv _ _).1 ok) he hj
   exact ⟨(A.ok_pv _ _).2 h1,by rw[A.off_pv,A.off_pv,h2]⟩
  | st fs =>
   cases e with
   | i j=>simp[A.ok]at ok
   | f q =>
    simp only[A.ok]at ok
    simp only[A.get]at he
    obtain ⟨h1,h2⟩:=ih ok.2 he hj
    exact ⟨by simp only[List.cons_append,A.ok]; exact ⟨ok.1,h1⟩,by simp only[List.cons_append,A.off,h2]; omega⟩
  | _=>simp[A.ok]at ok
theorem PV.snoc_f:∀ (π:List PE) {x:PV} {xs:List PV} {j:Nat},x.ok π→x.get π=.st xs→j < xs.length→x.ok (π++[.f j])∧x.off (π++[.f j])=x.off π+PV.sizeL (xs.take j)
 | [],x,xs,j,_,he,hj=>by
  rw[PV.get_nil]at he
  subst he
  exact ⟨by simp only[List.nil_append,PV.ok]; exact ⟨hj,trivial⟩,by simp[PV.off,PV.off_nil]⟩
 | e :: π,x,xs,j,ok,he,hj=>by
  cases x with
  | arr k n v =>
   cases e with
   | f j=>simp[PV.ok]at ok
   | i j =>
    cases π with
    | nil=>simp[PV.get]at he
    | cons _ _=>simp[PV.ok]at ok
  | st fs =>
   cases e with
   | i j=>simp[PV.ok]at ok
   | f q =>
    simp only[PV.ok]at ok
    simp only[PV.get]at he
    obtain ⟨h1,h2⟩:=PV.snoc_f π ok.2 he hj
    exact ⟨by simp only[List.cons_append,PV.ok]; exact ⟨ok.1,h1⟩,by simp only[List.cons_append,PV.off,h2]; omega⟩
  | ar sz xs =>
   cases e with
   | f j=>simp[PV.ok]at ok
   | i q =>
    simp only[PV.ok]at ok
    simp only[PV.get]at he
    obtain ⟨h1,h2⟩:=PV.snoc_f π ok.2 he hj
    exact ⟨by simp only[List.cons_append,PV.ok]; exact ⟨ok.1,h1⟩,by simp only[List.cons_append,PV.off,h2]; omega⟩
  | _=>simp[PV.ok]at ok
theorem A.snoc_f_pv (π:List PE):∀ {x:A} {xs:List PV} {j:Nat},x.ok π→x.get π=.pv (.st xs)→j < xs.length→x.ok (π++[.f j])∧x.off (π++[.f j])=x.off π+PV.sizeL (xs.take j):=by
 induction π with
 | nil =>
  intro x xs j _ he hj
  rw[A.get_nil]at he
  subst he
  exact ⟨by simp only[List.nil_append,A.ok,PV.ok]; exact ⟨hj,trivial⟩,by simp[A.off,PV.off,PV.off_nil]⟩
 | cons e π ih =>
  intro x xs j ok he hj
  cases x with
  | pv x =>
   rw[A.get_pv]at he
   obtain ⟨h1,h2⟩:=PV.snoc_f (e :: π) ((A.ok_pv _ _).1 ok) (A.pv.inj he) hj
   exact ⟨(A.ok_pv _ _).2 h1,by rw[A.off_pv,A.off_pv,h2]⟩
  | st fs =>
   cases e with
   | i j=>simp[A.ok]at ok
   | f q =>
    simp only[A.ok]at ok
    simp only[A.get]at he
    obtain ⟨h1,h2⟩:=ih ok.2 he hj
    exact ⟨by simp only[List.cons_append,A.ok]; exact ⟨ok.1,h1⟩,by simp only[List.cons_append,A.off,h2]; omega⟩
  | _=>simp[A.ok]at ok
theorem A.snoc_f_st (π:List PE):∀ {x:A} {xs:List A} {j:Nat},x.ok π→x.get π=.st xs→j < xs.length→x.ok (π++[.f j])∧x.off (π++[.f j])=x.off π+A.sizeL (xs.take j):=by
 induction π with
 | nil =>
  intro x xs j _ he hj
  rw[A.get_nil]at he
  subst he
  exact ⟨by simp only[List.nil_append,A.ok]; exact ⟨hj,trivial⟩,by simp[A.off,A.off_nil]⟩
 | cons e π ih =>
  intro x xs j ok he hj
  cases x with
  | pv x=>rw[A.get_pv]at he; cases he
  | st fs =>
   cases e with
   | i j=>simp[A.ok]at ok
   | f q =>
    simp only[A.ok]at ok
    simp only[A.get]at he
    obtain ⟨h1,h2⟩:=ih ok.2 he hj
    exact ⟨by simp only[List.cons_append,A.ok]; exact ⟨ok.1,h1⟩,by simp only[List.cons_append,A.off,h2]; omega⟩
  | _=>simp[A.ok]at ok
theorem RC.snoc_i {π:List PE} {rc:RC} {r:RC} {j:Nat} (ok:rc.ok π) (he:(rc.get π).elems=some r) (hj:j < r.len):rc.ok (π++[.i j])∧rc.off (π++[.i j])=rc.off π+j*r.sz:=by
 cases rc with
 | s k xs =>
  cases π with
  | nil=>simp[RC.ok]at ok
  | cons e π =>
   cases e with
   | f _=>simp[RC.ok]at ok
   | i q=>simp[RC.get,PV.elems]at he
 | p sz xs =>
  cases π with
  | nil=>simp[RC.ok]at ok
  | cons e π =>
   cases e with
   | f _=>simp[RC.ok]at ok
   | i q =>
    simp only[RC.ok]at ok
    simp only[RC.get]at he
    obtain ⟨h1,h2⟩:=PV.snoc_i π ok.2 he hj
    exact ⟨by simp only[List.cons_append,RC.ok]; exact ⟨ok.1,h1⟩,by simp only[List.cons_append,RC.off,h2]; omega⟩
theorem RC.snoc_f {π:List PE} {rc:RC} {xs:List PV} {j:Nat} (ok:rc.ok π) (he:rc.get π=.st xs) (hj:j < xs.length):rc.ok (π++[.f j])∧rc.off (π++[.f j])=rc.off π+PV.sizeL (xs.take j):=by
 cases rc with
 | s k ys =>
  cases π with
  | nil=>simp[RC.ok]at ok
  | cons e π =>
   cases e with
   | f _=>simp[RC.ok]at ok
   | i q=>simp[RC.get]at he
 | p sz ys =>
  cases π with
  | nil=>simp[RC.ok]at ok
  | cons e π =>
   cases e with
   | f _=>simp[RC.ok]at ok
   | i q =>
    simp only[RC.ok]at ok
    simp only[RC.get]at he
    obtain ⟨h1,h2⟩:=PV.snoc_f π ok.2 he hj
    exact ⟨by simp only[List.cons_append,RC.ok]; exact ⟨ok.1,h1⟩,by simp only[List.cons_append,RC.off,h2]; omega⟩
theorem Blk.snoc_i {b:Blk} {π:List PE} {rc:RC} {j:Nat} (ok:b.okv π) (he:b.elems π=some rc) (hj:j < rc.len):b.ok (π++[.i j])∧b.off (π++[.i j])=b.off π+j*rc.sz:=by
 cases b with
 | box c =>
  exact A.snoc_i π (by cases π<;>exact ok) (by simpa [Blk.elems,Blk.get] using he) hj
 | row r ex =>
  cases π with
  | nil =>
   simp only[Blk.elems,Option.some.injEq]at he
   subst he
   cases r with
   | s k xs=>exact ⟨by simpa [Blk.ok,RC.ok,RC.len] using hj,by simp[Blk.off,RC.off,RC.sz]⟩
   | p sz xs=>exact ⟨by simp only[List.nil_append,Blk.ok,RC.ok]; exact ⟨by simpa [RC.len] using hj,trivial⟩,by simp[Blk.off,RC.off,RC.sz,PV.off_nil]⟩
  | cons e π=>exact RC.snoc_i ok (by simpa [Blk.elems,Blk.get,A.elems_pv] using he) hj
 | map kv=>simp[Blk.elems,Blk.get,A.elems]at he
theorem Blk.okv_of_ok {b:Blk} {π:List PE} (h:b.ok π):b.okv π:=by
 cases b with
 | box c=>cases π<;>exact h
 | row r ex=>cases π with
  | nil=>trivial
  | cons e π=>exact h
 | map kv=>exact h.elim
theorem Blk.elems_get {b:Blk} {π:List PE} {rc:RC} (ok:b.ok π) (he:(b.get π).elems=some rc):b.elems π=some rc:=by
 cases b with
 | box c=>simpa [Blk.elems] using he
 | row r ex=>cases π with
  | nil=>cases r<;>simp[Blk.ok,RC.ok]at ok
  | cons e π=>simpa [Blk.elems] using he
 | map kv=>exact ok.elim
section
variable {P:Program} {w:World}
theorem zde {t:TypeId} {s:Nat} (h:szT P t=some s):(sizeOf t).run P w=.ok s w:=by
 unfold szT at h
 cases hq:P.info? t with
 | none=>simp[hq]at h
 | some i=>simp[hq]at h; simp[sizeOf,typeInfo,hq,h]
theorem zhk {t e:TypeId} {N s b o:Nat} {k:IntKind} {j:Int} (hu:P.underlying t=some (.array N e)) (hs:szT P e=some s) (h0:0≤j) (h1:j < N) :
  (Instr.indexAt t (.pointer (some ⟨b,o,none⟩)) (.int k j)).run P w=.ok (.pointer (some ⟨b,o+j.toNat*s,none⟩)) w:=by
 simp[Instr.indexAt,asIntOf,run_underlying hu,Instr.sureAddr,h0,h1,zde hs,zel]
theorem zfM {t e:TypeId} {len cap s b o:Nat} {k:IntKind} {j:Int} (hu:P.underlying t=some (.slice e)) (hs:szT P e=some s) (h0:0≤j) (h1:j < len) :
  (Instr.indexAt t (.slice (some ⟨b,o,none⟩) len cap) (.int k j)).run P w=.ok (.pointer (some ⟨b,o+j.toNat*s,none⟩)) w:=by
 simp[Instr.indexAt,asIntOf,run_underlying hu,h0,h1,zde hs,zel]
end
section
variable {β:Nat→Value} {S:Nat→Prop} {h:Array Obj} {L:Nat→Option Blk}
theorem zjn {x:A} {v:Value} {j:Int} (hi:x.idx=some j) (hx:RepA β S h L x v):∃ k,v=.int k j:=by
 cases x with
 | pv x =>
  cases x with
  | sc k x =>
   have hv:=hx.sc_inv
   subst hv
   cases k<;>simp[A.idx,zI6]at hi<;>subst hi<;>exact ⟨_,rfl⟩
  | _=>simp[A.idx,zI6]at hi
 | _=>simp[A.idx]at hi
theorem zwu {xs:List PV} {vs:List Value} (r:RepL S h xs vs) {sz:Nat} (e:∀ x ∈ xs,x.size=sz) {j:Nat} (hj:j < xs.length) :
  ∃ X us Y,vs=X++us++Y∧X.length=j*sz∧RepPV S h (xs.getD j .nilp) us:=by
 obtain ⟨X,us,Y,h1,h2,h3,_⟩:=r.part j hj
 refine ⟨X,us,Y,h1,?_,h3⟩
 rw[h2,zlv (fun x hx=>e x (List.mem_of_mem_take hx)),List.length_take,Nat.min_eq_left (by omega)]
theorem zsF {P:Program} {w:World} {N0:Nat} {F:Nat→Prop} (M:MS β S w.heap N0 F L) {t:TypeId} {x r:A} {j:Int} (hr:zcr P L t x j=some r) {v:Value} (hx:RepA β S w.heap L x v) (k:IntKind) :
  ∃ u,(Instr.indexAt t v (.int k j)).run P w=.ok u w∧RepA β S w.heap L r u:=by
 simp only[zcr,Option.bind_eq_some_iff]at hr
 obtain ⟨e,he,s,hs,hr⟩:=hr
 obtain ⟨vs,rx,ev⟩:=hx
 split at hr
 ·rename_i n π
  simp only[Option.bind_eq_some_iff]at hr
  obtain ⟨blk,hL,hr⟩:=hr
  split at hr
  ·rename_i N e' N' sz hu hl
   split at hr
   ·rename_i hc
    simp only[Bool.and_eq_true,nbeq]at hc
    obtain ⟨rfl,rfl⟩:=hc
    split at hr
    ·rename_i hj
     cases hr
     have:e'=e:=by simp[zdj,hu]at he; exact he
     subst this
     cases rx with
     | p e1 e2 e3 =>
      rw[hL]at e1; cases e1
      rw[A.elems_len]at hl
      simp only[Option.map_eq_some_iff,Prod.mk.injEq]at hl
      obtain ⟨rc,h1,h2,h3⟩:=hl
      obtain ⟨g1,g2⟩:=Blk.snoc_i (Blk.okv_of_ok e2) (Blk.elems_get e2 h1) (j:=j.toNat) (by omega)
      rw[ev]
      refine ⟨_,zhk hu hs hj.1 hj.2,_,.p hL g1 e3,?_⟩
      rw[g2,h3,Nat.add_assoc]; rfl
    ·cases hr
   ·cases hr
  ·cases hr
 ·rename_i k' n v'
  split at hr
  ·rename_i N e' hu
   split at hr
   ·rename_i hc
    simp only[Bool.and_eq_true,nbeq]at hc
    obtain ⟨rfl,rfl⟩:=hc
    split at hr
    ·rename_i hj
     cases hr
     have:e'=e:=by simp[zdj,hu]at he; exact he
     subst this
     cases rx with
     | rp s1 s2 s3 =>
      rw[ev]
      refine ⟨_,zhk hu hs hj.1 hj.2,_,.rp s1 ?_ (.sc _ _),rfl⟩
      obtain ⟨X,us,Y,f1,f2,f3⟩:=(RepRC.s (S:=S) (h:=w.heap) k' v'.toList).part (π:=[.i j.toNat]) (by simp[RC.ok]; omega)
      cases s3
      have:=s2.sub f1
      cases f3.1
      rw[f2]at this
      simpa [RC.off] using this
    ·cases hr
   ·cases hr
  ·cases hr
 ·rename_i sz xs
  split at hr
  ·rename_i N e' hu
   split at hr
   ·rename_i hc
    rw[nbeq]at hc
    subst hc
    split at hr
    ·rename_i hj
     cases hr
     have:e'=e:=by simp[zdj,hu]at he; exact he
     subst this
     cases rx with
     | rp s1 s2 s3 =>
      cases s3 with
      | ar q1 q2 =>
       obtain ⟨X,us,Y,f1,f2,f3⟩:=zwu q2 q1 (j:=j.toNat) (by omega)
       have:=s2.sub f1
       rw[f2]at this
       rw[ev]
       exact ⟨_,zhk hu hs hj.2.1 hj.2.2,_,.rp s1 this f3,rfl⟩
    ·cases hr
   ·cases hr
  ·cases hr
 ·rename_i n
  simp only[Option.bind_eq_some_iff]at hr
  obtain ⟨blk,hL,hr⟩:=hr
  split at hr
  ·rename_i e' rc ex hu
   split at hr
   ·rename_i hc
    rw[nbeq]at hc
    subst hc
    split at hr
    ·rename_i hj
     cases hr
     have:e'=e:=by simp[zdj,hu]at he; exact he
     subst this
     cases rx with
     | o e1 e2 =>
      obtain ⟨a,cap,g1,g2,g3,g4⟩:=M.blk n _ hL
      rcases g4 with g4 | ⟨b,o,cs,T,q1,q2,q3,X0,vs,Y0,q4,q5,q6⟩
      ·omega
      ·subst q1
       have hb:zbT (β n)=some ⟨b,o,none⟩:=by rw[g1]; rfl
       obtain ⟨k1,k2⟩:=Blk.snoc_i (b:=.row rc ex) (π:=[]) trivial rfl (j:=j.toNat) (by omega)
       rw[ev,show pack (A.o n).isAgg [β n]=β n from rfl,g1]
       refine ⟨_,zfM hu hs hj.1 hj.2,_,.p hL k1 hb,?_⟩
       have k3:(Blk.row rc ex).off [.i j.toNat]=j.toNat*rc.sz:=by
        have:=k2
        rwa [show (Blk.row rc ex).off []=0 from by cases rc<;>rfl,Nat.zero_add]at this
       rw[k3]; rfl
    ·cases hr
   ·cases hr
  ·cases hr
 ·rename_i n π off len cap
  simp only[Option.bind_eq_some_iff]at hr
  obtain ⟨blk,hL,hr⟩:=hr
  split at hr
  ·rename_i e' N sz hu hl
   split at hr
   ·rename_i hc
    rw[nbeq]at hc
    subst hc
    split at hr
    ·rename_i hj
     cases hr
     have:e'=e:=by simp[zdj,hu]at he; exact he
     subst this
     cases rx with
     | vw e1 e2 e4 e5 e6 e7 e8 =>
      rw[hL]at e1; cases e1
      rw[hl]at e4; cases e4
      rw[Blk.elems_len]at hl
      simp only[Option.map_eq_some_iff,Prod.mk.injEq]at hl
      obtain ⟨rc,h1,h2,h3⟩:=hl
      rcases e8 with e8 | ⟨b,o,e3,e8⟩
      ·omega
      ·obtain ⟨g1,g2⟩:=Blk.snoc_i e2 h1 (j:=off+j.toNat) (by omega)
       rw[ev,e8]
       refine ⟨_,zfM hu hs hj.1 hj.2,_,.p hL g1 e3,?_⟩
       rw[g2,h3,Nat.add_mul,Nat.add_assoc,Nat.add_assoc]; rfl
    ·cases hr
   ·cases hr
  ·cases hr
 ·rename_i k' xs
  split at hr
  ·rename_i e' hu
   split at hr
   ·rename_i hc
    rw[nbeq]at hc
    subst hc
    split at hr
    ·rename_i hj
     cases hr
     have:e'=e:=by simp[zdj,hu]at he; exact he
     subst this
     cases rx with
     | pv rx =>
      cases rx with
      | sl l1 l2 =>
       rcases l2 with rfl | ⟨b,off,rfl,s1,s2⟩
       ·simp at hj; omega
       ·rw[ev]
        refine ⟨_,zfM hu hs hj.1 hj.2,_,.rp s1 ?_ (.sc _ _),rfl⟩
        obtain ⟨X,us,Y,f1,f2,f3⟩:=(RepRC.s (S:=S) (h:=w.heap) k' xs).part (π:=[.i j.toNat]) (by simp[RC.ok]; omega)
        have:=s2.sub f1
        cases f3.1
        rw[f2]at this
        simpa [RC.off] using this
    ·cases hr
   ·cases hr
  ·cases hr
 ·rename_i sz xs
  split at hr
  ·rename_i e' hu
   split at hr
   ·rename_i hc
    rw[nbeq]at hc
    subst hc
    split at hr
    ·rename_i hj
     cases hr
     have:e'=e:=by simp[zdj,hu]at he; exact he
     subst this
     cases rx with
     | pv rx =>
      cases rx with
      | sp l1 q1 q2 l2 =>
       rcases l2 with rfl | ⟨b,off,rfl,s1,s2⟩
       ·simp at hj; omega
       ·obtain ⟨X,us,Y,f1,f2,f3⟩:=zwu q2 q1 (j:=j.toNat) (by omega)
        have:=s2.sub f1
        rw[f2]at this
        rw[ev]
        exact ⟨_,zfM hu hs hj.1 hj.2,_,.rp s1 this f3,rfl⟩
    ·cases hr
   ·cases hr
  ·cases hr
 ·cases hr
end
end Go.Proofs.YtnolgfdjcipmmaaDoor.M
namespace Go.Proofs.YtnolgfdjcipmmaaDoor.M
open Go
section
variable {P:Program} {w:World}
theorem zgB {t:TypeId} {cs:List Value} {X us Y:List Value} (hc:cs=X++us++Y) (hs:szT P t=some us.length) (hu:(P.underlying t).isSome=true)
  (h1:aggT P t=false→us.length=1):(part t cs.toArray X.length).run P w=.ok (pack (aggT P t) us) w:=by
 subst hc
 unfold part
 rw[Sem.run_bind,zyX hu]
 cases e:aggT P t with
 | true =>
  simp only[Result.andThen_ok,if_true,Sem.run_bind,zde hs,Sem.run_pure]
  congr 2
  rw[List.extract_toArray,List.extract_eq_take_drop,List.append_assoc,List.drop_left,show X.length+us.length - X.length=us.length from by omega,List.take_left]
 | false =>
  obtain ⟨v,rfl⟩:∃ v,us=[v]:=List.length_eq_one_iff.1 (h1 e)
  simp[pack]
theorem zne {t:TypeId} {fs:Array Field} {f:Nat} {fd:Field} {b o s:Nat} (hu:P.underlying t=some (.struct fs)) (hf:fs[f]?=some fd) (hs:szT P fd.type=some s) (hp:0 < s) :
  (Instr.fieldAt t (.pointer (some ⟨b,o,none⟩)) f).run P w=.ok (.pointer (some ⟨b,o+fd.offset,none⟩)) w:=by
 have:¬ s=0:=by omega
 simp[Instr.fieldAt,run_underlying hu,hf,Instr.sureAddr,fieldPlace,zde hs,this,zel]
end
section
variable {β:Nat→Value} {S:Nat→Prop} {h:Array Obj} {L:Nat→Option Blk} {P:Program} {w:World} {N0:Nat} {F:Nat→Prop}
theorem RepPV.len1 {x:PV} {us:List Value} (r:RepPV S h x us) (hx:x.isAgg=false):us.length=1:=by
 obtain ⟨v,rfl,_⟩:=r.flat hx; rfl
theorem zCs {t:TypeId} {x r:A} {j:Int} (hr:zsp P t x j=some r) {v:Value} (hx:RepA β S h L x v) (k:IntKind) :
  ∃ u,(Instr.index t v (.int k j)).run P w=.ok u w∧RepA β S h L r u:=by
 unfold zsp at hr
 split at hr
 ·rename_i k' n v' N e hu
  split at hr
  ·rename_i hc
   simp only[Bool.and_eq_true,nbeq,beq_iff_eq]at hc
   obtain ⟨⟨⟨rfl,hs⟩,ha⟩,hue⟩:=hc
   split at hr
   ·rename_i hj
    cases hr
    obtain ⟨vs,rv,ev⟩:=hx.pv_inv
    cases rv
    obtain ⟨X,us,Y,f1,f2,f3⟩:=(RepRC.s (S:=S) (h:=h) k' v'.toList).part (π:=[.i j.toNat]) (by simp[RC.ok]; omega)
    have f3:=f3.1
    cases f3
    refine ⟨_,?_,RepA.sc _ _⟩
    rw[ev]
    have hp:=zgB (P:=P) (w:=w) (t:=e) f1 hs hue (fun _=>rfl)
    rw[f2,ha]at hp
    have hN:(if 0≤j∧j < (n:Int)then part e (v'.toList.map k'.enc).toArray (j.toNat*1)else boundsPanic k j n .index:Sem Value).run P w=.ok (k'.enc (v'.toList.getD j.toNat k'.zero)) w:=by
     rw[if_pos hj]
     simpa [RC.off,pack] using hp
    simp only[Instr.index,asIntOf,Sem.run_bind,Sem.run_pure,Result.andThen_ok,run_underlying hu,pack,PV.isAgg,if_true,zde hs]
    rw[if_pos hj,Sem.run_bind,zde hs]
    simpa [RC.off,pack] using hp
   ·cases hr
  ·cases hr
 ·rename_i sz xs N e hu
  split at hr
  ·rename_i hs
   simp only[beq_iff_eq]at hs
   split at hr
   ·rename_i hj
    split at hr
    ·rename_i ha
     simp only[Bool.and_eq_true,beq_iff_eq]at ha
     obtain ⟨ha,hue⟩:=ha
     cases hr
     obtain ⟨vs,rv,ev⟩:=hx.pv_inv
     cases rv with
     | ar q1 q2 =>
      obtain ⟨X,us,Y,f1,f2,f3⟩:=zwu q2 q1 (j:=j.toNat) (by omega)
      have hsz:us.length=sz:=by
       rw[f3.size]; exact q1 _ (by rw[zdS _ _ _ (by omega)]; exact List.getElem_mem _)
      refine ⟨_,?_,RepA.pv f3⟩
      rw[ev,←ha]
      have hp:=zgB (P:=P) (w:=w) (t:=e) f1 (by rw[hs,hsz]) hue (fun e'=>f3.len1 (by rw[←ha,e']))
      rw[f2]at hp
      simp only[Instr.index,asIntOf,Sem.run_bind,Sem.run_pure,Result.andThen_ok,run_underlying hu,pack,PV.isAgg,if_true]
      rw[if_pos hj.2,Sem.run_bind,zde hs]
      exact hp
    ·cases hr
   ·cases hr
  ·cases hr
 ·cases hr
theorem zCd {t:TypeId} {x r:A} {f:Nat} (hr:zCz P t x f=some r) {v:Value} (hx:RepA β S h L x v) :
  ∃ u,(Instr.field t v f).run P w=.ok u w∧RepA β S h L r u:=by
 unfold zCz at hr
 split at hr
 ·rename_i fs xs hu
  split at hr
  ·rename_i fd hf
   split at hr
   ·rename_i hc
    simp only[Bool.and_eq_true,nbeq,beq_iff_eq]at hc
    obtain ⟨⟨⟨⟨c1,c2⟩,c3⟩,c4⟩,c5⟩:=hc
    have c1:f < xs.length:=Nat.le_of_ble_eq_true c1
    cases hr
    obtain ⟨vs,rv,ev⟩:=hx.pv_inv
    cases rv with
    | st q =>
     obtain ⟨X,us,Y,f1,f2,f3,_⟩:=q.part f c1
     refine ⟨_,?_,RepA.pv f3⟩
     rw[ev,←c4]
     have hp:=zgB (P:=P) (w:=w) (t:=fd.type) f1 (by rw[c3,f3.size]) c5 (fun e'=>f3.len1 (by rw[←c4,e']))
     rw[f2,←c2]at hp
     simp only[Instr.field,Sem.run_bind,run_underlying hu,Result.andThen_ok,hf,asAgg,pack,PV.isAgg,if_true,Sem.run_pure]
     exact hp
   ·cases hr
  ·cases hr
 ·cases hr
theorem zs6 {t:TypeId} {x r:A} {f:Nat} (hr:zbS P L t x f=some r) {v:Value} (hx:RepA β S w.heap L x v) :
  ∃ u,(Instr.fieldAt t v f).run P w=.ok u w∧RepA β S w.heap L r u:=by
 unfold zbS at hr
 obtain ⟨vs,rx,ev⟩:=hx
 split at hr
 ·rename_i fs hu
  split at hr
  ·rename_i fd hf
   have hsz:∀ {o:Option Nat},o.any (Nat.blt 0)=true→∃ s,o=some s∧0 < s:=by
    intro o h
    cases o with
    | none=>cases h
    | some s=>exact ⟨s,rfl,Nat.le_of_ble_eq_true h⟩
   split at hr
   ·rename_i n π
    simp only[Option.bind_eq_some_iff]at hr
    obtain ⟨blk,hL,hr⟩:=hr
    split at hr
    ·rename_i xs hg
     split at hr
     ·rename_i hc
      simp only[Bool.and_eq_true,nbeq]at hc
      obtain ⟨⟨c1,c2⟩,c3⟩:=hc
      obtain ⟨s,hs,hp⟩:=hsz c3
      cases hr
      cases rx with
      | p e1 e2 e3 =>
       rw[hL]at e1; cases e1
       have hn:blk.ok (π++[.f f])∧blk.off (π++[.f f])=blk.off π+PV.sizeL (xs.take f):=by
        cases blk with
        | box c=>exact A.snoc_f_pv π e2 hg (Nat.le_of_ble_eq_true c1)
        | row rc ex=>exact RC.snoc_f e2 (A.pv.inj hg) (Nat.le_of_ble_eq_true c1)
        | map kv=>cases hg
       rw[ev]
       refine ⟨_,zne hu hf hs hp,_,.p hL hn.1 e3,?_⟩
       rw[hn.2,c2,Nat.add_assoc]; rfl
     ·cases hr
    ·rename_i xs hg
     split at hr
     ·rename_i hc
      simp only[Bool.and_eq_true,nbeq]at hc
      obtain ⟨⟨c1,c2⟩,c3⟩:=hc
      obtain ⟨s,hs,hp⟩:=hsz c3
      cases hr
      cases rx with
      | p e1 e2 e3 =>
       rw[hL]at e1; cases e1
       have hn:blk.ok (π++[.f f])∧blk.off (π++[.f f])=blk.off π+A.sizeL (xs.take f):=by
        cases blk with
        | box c=>exact A.snoc_f_st π e2 hg (Nat.le_of_ble_eq_true c1)
        | row rc ex=>cases hg
        | map kv=>cases hg
       rw[ev]
       refine ⟨_,zne hu hf hs hp,_,.p hL hn.1 e3,?_⟩
       rw[hn.2,c2,Nat.add_assoc]; rfl
     ·cases hr
    ·cases hr
   ·rename_i xs
    split at hr
    ·rename_i hc
     simp only[Bool.and_eq_true,nbeq]at hc
     obtain ⟨⟨c1,c2⟩,c3⟩:=hc
     obtain ⟨s,hs,hp⟩:=hsz c3
     cases hr
     cases rx with
     | rp s1 s2 s3 =>
      cases s3 with
      | st q =>
       obtain ⟨X,us,Y,f1,f2,f3,_⟩:=q.part f (Nat.le_of_ble_eq_true c1)
       have:=s2.sub f1
       rw[f2,←c2]at this
       rw[ev]
       exact ⟨_,zne hu hf hs hp,_,.rp s1 this f3,rfl⟩
    ·cases hr
   ·cases hr
  ·cases hr
 ·cases hr
end
end Go.Proofs.YtnolgfdjcipmmaaDoor.M
