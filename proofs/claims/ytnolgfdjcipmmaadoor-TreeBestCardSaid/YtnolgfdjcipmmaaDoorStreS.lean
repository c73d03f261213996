/- Part of the proofs: what functions of the program do: plain functions, and the walks that show it. No condition. -/
import Derived.KernelRfl
import Derived.Test.YtnolgfdjcipmmaaDoorLe
import Derived.Test.YtnolgfdjcipmmaaDoorSshaS
import Derived.Test.YtnolgfdjcipmmaaDoorSendS
import Derived.Test.YtnolgfdjcipmmaaDoorStarS
import Derived.Test.YtnolgfdjcipmmaaDoorSbigS
import Derived.Test.YtnolgfdjcipmmaaDoorSwords
import Derived.Test.YtnolgfdjcipmmaaDoorSbigB
set_option linter.unusedVariables false
set_option linter.unusedSimpArgs false
set_option autoImplicit false
namespace Go.Proofs.YtnolgfdjcipmmaaDoor.M
open Go
structure KN where
 id:Vector UInt8 32
 prev:Vector UInt8 32
 root:Vector UInt8 32
 time:UInt32
 bits:UInt32
 nonce:UInt32
 parent:Int
 height:UInt32
 work:Vector UInt64 4
def knPV (k:KN):PV:=.st [.arr .u8 32 k.id,.st [.arr .u8 32 k.prev,.arr .u8 32 k.root,.sc .u32 k.time,.sc .u32 k.bits,.sc .u32 k.nonce],.sc .i k.parent,.sc .u32 k.height,.arr .u64 4 k.work]
def knOf (x:PV):KN:=⟨PV.vecv .u8 32 (x.fld 0),PV.vecv .u8 32 ((x.fld 1).fld 0),PV.vecv .u8 32 ((x.fld 1).fld 1),PV.scv .u32 ((x.fld 1).fld 2),PV.scv .u32 ((x.fld 1).fld 3),PV.scv .u32 ((x.fld 1).fld 4),PV.scv .i (x.fld 2),PV.scv .u32 (x.fld 3),PV.vecv .u64 4 (x.fld 4)⟩
theorem zlK {k:EK} {n:Nat} (v:Vector k.T n):PV.vecv k n (.arr k n v)=v:=by simp[PV.vecv,zCK]
theorem zn3 (k:KN):knOf (knPV k)=k:=by
 unfold knOf knPV
 simp only[PV.fld,List.getD_cons_zero,List.getD_cons_succ,zlK,PV.scv,EK.cast_same,Option.getD_some]
theorem zjr (l:List KN):(l.map knPV).map knOf=l:=by
 rw[List.map_map]
 conv=>rhs; rw[←List.map_id l]
 exact List.map_congr_left fun v _=>zn3 v
def za3:Int→List KN→List (PV × PV)
 | _,[]=>[]
 | n,k :: r=>(.arr .u8 32 k.id,.sc .i n) :: za3 (n+1) r
def zeJ:List KN→Vector UInt8 32→Option Nat
 | [],_=>none
 | k :: r,id=>if id=k.id then some 0 else(zeJ r id).map (· + 1)
theorem zvy {a b:Vector UInt8 32}:zqY (.arr .u8 32 a) (.arr .u8 32 b)=decide (a=b):=by
 unfold zqY
 simp only[eqPV,zyN,if_true]
 by_cases h:a=b
 ·subst h; simp
 ·rw[decide_eq_false h,decide_eq_false (fun e=>h (Vector.toList_inj.1 e))]
theorem zrg:∀ (ks:List KN) (n:Int) (id:Vector UInt8 32),mget (za3 n ks) (.arr .u8 32 id)=(zeJ ks id).map fun i=>.sc .i (n+(i:Int))
 | [],n,id=>rfl
 | k :: r,n,id=>by
  unfold za3 mget zeJ
  rw[zvy]
  by_cases h:id=k.id
  ·rw[decide_eq_true h,if_pos h]
   show some (PV.sc EK.i n)=some (PV.sc EK.i (n+((0:Nat):Int)))
   rw[show n+((0:Nat):Int)=n by omega]
  ·rw[decide_eq_false h,if_neg h]
   show mget (za3 (n+1) r) _=_
   rw[zrg r (n+1) id,Option.map_map]
   congr 1
   funext i
   show PV.sc EK.i (n+1+(i:Int))=PV.sc EK.i (n+((i+1:Nat):Int))
   rw[show n+1+(i:Int)=n+((i+1:Nat):Int) by omega]
theorem zDV:∀ (ks:List KN) (n:Int) (id:Vector UInt8 32) (v:PV),zeJ ks id=none→mset (za3 n ks) (.arr .u8 32 id) v=za3 n ks++[(.arr .u8 32 id,v)]
 | [],n,id,v,_=>rfl
 | k :: r,n,id,v,h=>by
  unfold zeJ at h
  by_cases e:id=k.id
  ·rw[if_pos e]at h; cases h
  ·rw[if_neg e]at h
   unfold za3 mset
   rw[zvy,decide_eq_false e]
   show _ :: mset (za3 (n+1) r) _ _=_
   rw[zDV r (n+1) id v (by cases hq:zeJ r id with | none=>rfl | some i=>rw[hq]at h; cases h)]
   rfl
theorem zp3:∀ (ks:List KN) (n:Int) (k:KN),za3 n (ks++[k])=za3 n ks++[(.arr .u8 32 k.id,.sc .i (n+(ks.length:Int)))]
 | [],n,k=>by simp[za3]
 | q :: r,n,k=>by
  show _ :: za3 (n+1) (r++[k])=_
  rw[zp3 r (n+1) k]
  show _ :: (za3 (n+1) r++_)=_ :: (za3 (n+1) r++_)
  rw[show n+1+(r.length:Int)=n+((q :: r).length:Int) by rw[List.length_cons]; omega]
theorem zzq:∀ (ks:List KN) (n:Int),zic (.arr .u8 32) (za3 n ks)=true
 | [],n=>rfl
 | k :: r,n=>by
  show (true && zic (.arr .u8 32) (za3 (n+1) r))=true
  rw[zzq r]; rfl
theorem zGu:∀ (ks:List KN) (n:Int) (b:Bool),b=false→((za3 n ks).all fun p=>p.2.isAgg == b)=true
 | [],n,b,_=>rfl
 | k :: r,n,b,h=>by
  subst h
  show (true && (za3 (n+1) r).all _)=true
  rw[zGu r (n+1) false rfl]; rfl
def kn0:KN:=⟨Vector.replicate 32 0,Vector.replicate 32 0,Vector.replicate 32 0,0,0,0,0,0,Vector.replicate 4 0⟩
theorem zrr:∀ {ks:List KN} {id:Vector UInt8 32} {i:Nat},zeJ ks id=some i→i < ks.length∧(ks.getD i kn0).id=id
 | [],id,i,h=>by cases h
 | k :: r,id,i,h=>by
  unfold zeJ at h
  by_cases e:id=k.id
  ·rw[if_pos e]at h
   cases h
   exact ⟨by simp,e.symm⟩
  ·rw[if_neg e]at h
   obtain ⟨j,hj,rfl⟩:=Option.map_eq_some_iff.1 h
   obtain ⟨h1,h2⟩:=zrr hj
   exact ⟨by simp; exact h1,by simpa using h2⟩
noncomputable def zaM (ks:List KN):Nat:=(List.range ks.length).foldl (fun b i=>if subB (ks.getD b kn0).work (ks.getD i kn0).work=true then i else b) 0
structure TV where
 blocks:List PV
 ids:List (PV × PV)
 best:Int
noncomputable def tvOf (ks:List KN):TV:=⟨ks.map knPV,za3 0 ks,(zaM ks:Int)⟩
def TV.ks (t:TV):List KN:=t.blocks.map knOf
structure treeOK (ks:List KN):Prop where
 ne:ks≠[]
 len:ks.length≤200
 par:∀ i,i < ks.length→(i=0→(ks.getD i kn0).parent = -1)∧(0 < i→0≤(ks.getD i kn0).parent∧(ks.getD i kn0).parent < (i:Int))
structure tvC (t:TV):Prop where
 ok:treeOK t.ks
 eq:tvOf t.ks=t
noncomputable instance tvC_dec (t:TV):Decidable (tvC t):=Classical.propDecidable _
theorem zxn (ks:List KN):(tvOf ks).ks=ks:=zjr ks
theorem tv_c {ks:List KN} (h:treeOK ks):tvC (tvOf ks):=⟨by rw[zxn]; exact h,by rw[zxn]⟩
theorem tvC.get {t:TV} (h:tvC t):∃ ks,treeOK ks∧t=tvOf ks:=⟨t.ks,h.ok,h.eq.symm⟩
noncomputable def zkw (a b:Vector UInt64 4):Vector UInt64 4:=bif addB a b then subV (Vector.replicate 4 0) (uW (1:UInt64).toNat)else addV a b
noncomputable def zdF (ks:List KN) (p:Nat) (prev root:Vector UInt8 32) (time bits nonce:UInt32):KN :=
 ⟨idV prev root time bits nonce,prev,root,time,bits,nonce,(p:Int),(ks.getD p kn0).height+1,zkw (ks.getD p kn0).work (zbN bits)⟩
noncomputable def tAdd (ks:List KN) (prev root:Vector UInt8 32) (time bits nonce:UInt32):Int × Int × List KN :=
 match zeJ ks (idV prev root time bits nonce) with
 | some _=>(0,7,ks)
 | none=>match zeJ ks prev with
  | none=>(0,6,ks)
  | some p=>if ofE bits≠0 then(0,5,ks)else if 200≤ks.length then(0,3,ks) else(ks.length,0,ks++[zdF ks p prev root time bits nonce])
noncomputable def zaE (t:TV) (prev root:Vector UInt8 32) (time bits nonce:UInt32):Int × Int × TV:=lock ((tAdd t.ks prev root time bits nonce).1,(tAdd t.ks prev root time bits nonce).2.1,tvOf (tAdd t.ks prev root time bits nonce).2.2)
theorem zDc (t:TV) (prev root:Vector UInt8 32) (time bits nonce:UInt32):zaE t prev root time bits nonce=((tAdd t.ks prev root time bits nonce).1,(tAdd t.ks prev root time bits nonce).2.1,tvOf (tAdd t.ks prev root time bits nonce).2.2):=za7 _
noncomputable def knBegin:KN:=⟨idV (Vector.replicate 32 0) (Vector.replicate 32 0) 0 545259519 0,Vector.replicate 32 0,Vector.replicate 32 0,0,545259519,0,-1,0,zbN 545259519⟩
noncomputable def tvNew:TV:=lock (tvOf [knBegin])
theorem zlU:tvNew=tvOf [knBegin]:=za7 _
theorem zlN (ks:List KN):PV.flats (ks.map knPV)=true:=by
 induction ks with
 | nil=>rfl
 | cons k r ih=>rw[List.map_cons,PV.flats,ih]; rfl
theorem ztp:∀ (ks:List KN) (n:Int),(PV.flats ((za3 n ks).map fun z=>z.1) && PV.flats ((za3 n ks).map fun z=>z.2))=true
 | [],n=>rfl
 | k :: r,n=>by
  have:=ztp r (n+1)
  rw[Bool.and_eq_true]at this
  show ((true && PV.flats ((za3 (n+1) r).map fun z=>z.1)) && (true && PV.flats ((za3 (n+1) r).map fun z=>z.2)))=true
  rw[this.1,this.2]; rfl
theorem tvC.flats {blocks:List PV} {ids:List (PV × PV)} {best:Int} (h:tvC (TV.mk blocks ids best)):((PV.flats (ids.map fun z=>z.1) && PV.flats (ids.map fun z=>z.2))=true)∧PV.flats blocks=true:=by
 obtain ⟨ks,_,e⟩:=h.get
 cases e
 exact ⟨ztp ks 0,zlN ks⟩
def zdN (blocks:List PV) (n:Int):Bool:=decide (0≤n) && decide (n < ((blocks.length:Nat):Int))
theorem zqD (ks:List KN) (n:Nat):∀ (l:List Nat) (b:Nat),(∀ i ∈ l,i < n)→b < n→l.foldl (fun b i=>if subB (ks.getD b kn0).work (ks.getD i kn0).work=true then i else b) b < n
 | [],b,_,hb=>hb
 | i :: l,b,h,hb=>by
  rw[List.foldl_cons]
  refine zqD ks n l _ (fun j hj=>h j (by simp[hj])) ?_
  split
  ·exact h i (by simp)
  ·exact hb
theorem zok {ks:List KN} (h:ks≠[]):zaM ks < ks.length:=by
 have:0 < ks.length:=List.length_pos_iff.2 h
 exact zqD ks _ _ _ (fun i hi=>List.mem_range.1 hi) this
theorem zea {α:Type} (l r:List α) (i:Nat) (d:α) (h:i < l.length):(l++r).getD i d=l.getD i d:=by
 rw[List.getD_eq_getElem?_getD,List.getElem?_append_left h,←List.getD_eq_getElem?_getD]
theorem zkS {α:Type} (l:List α) (x d:α):(l++[x]).getD l.length d=x:=by
 rw[List.getD_eq_getElem?_getD,List.getElem?_append_right (Nat.le_refl _)]
 simp
theorem zoH (ks:List KN) (k:KN):∀ (l:List Nat) (b:Nat),(∀ i ∈ l,i < ks.length)→b < ks.length →
  l.foldl (fun b i=>if subB ((ks++[k]).getD b kn0).work ((ks++[k]).getD i kn0).work=true then i else b) b=l.foldl (fun b i=>if subB (ks.getD b kn0).work (ks.getD i kn0).work=true then i else b) b
 | [],b,_,_=>rfl
 | i :: l,b,h,hb=>by
  have hi:=h i (by simp)
  rw[List.foldl_cons,List.foldl_cons,zea _ _ _ _ hb,zea _ _ _ _ hi]
  refine zoH ks k l _ (fun j hj=>h j (by simp[hj])) ?_
  split
  ·exact hi
  ·exact hb
theorem zjD {ks:List KN} (h:ks≠[]) (k:KN):zaM (ks++[k])=if subB (ks.getD (zaM ks) kn0).work k.work=true then ks.length else zaM ks:=by
 have h0:0 < ks.length:=List.length_pos_iff.2 h
 unfold zaM
 rw[List.length_append,List.length_singleton,List.range_succ,List.foldl_append,zoH ks k _ 0 (fun i hi=>List.mem_range.1 hi) h0]
 simp only[List.foldl_cons,List.foldl_nil]
 have:=zok h
 unfold zaM at this
 rw[zea _ _ _ _ this,zkS]
theorem zBW {ks:List KN} {i:Nat} (h:i < ks.length):RC.get (RC.p 105 (ks.map knPV)) [PE.i i]=knPV (ks.getD i kn0):=by
 show PV.get ((ks.map knPV).getD i .nilp) []=_
 rw[PV.get_nil,zdS _ _ _ (by simpa using h),List.getElem_map,zdS _ _ _ h]
theorem zIk {ks:List KN} {i:Nat} (h:i < ks.length):RC.get (RC.p 105 (ks.map knPV)) ([PE.i i]++[PE.f 3])=.sc .u32 (ks.getD i kn0).height:=by
 show PV.get ((ks.map knPV).getD i .nilp) [.f 3]=_
 rw[zdS _ _ _ (by simpa using h),List.getElem_map,←zdS ks i kn0 h]
 show PV.get (.sc .u32 (ks.getD i kn0).height) []=_
 rw[PV.get_nil]
theorem zGl {ks:List KN} {i:Nat} (h:i < ks.length):RC.get (RC.p 105 (ks.map knPV)) ([PE.i i]++[PE.f 4])=.arr .u64 4 (ks.getD i kn0).work:=by
 show PV.get ((ks.map knPV).getD i .nilp) [.f 4]=_
 rw[zdS _ _ _ (by simpa using h),List.getElem_map,←zdS ks i kn0 h]
 show PV.get (.arr .u64 4 (ks.getD i kn0).work) []=_
 rw[PV.get_nil]
theorem zJT (x:Int):PV.scv .i (.sc .i x)=x:=rfl
theorem zDF (ks:List KN) (id:Vector UInt8 32):(zic (zdc (PV.arr EK.u8 32 id)) (za3 0 ks)=true)∧((List.all (za3 0 ks) (fun(z9:PV × PV)=>z9.2.isAgg == (PV.sc EK.i 0).isAgg))=true)∧TY.chk (TY.sc EK.i) (Option.getD (mget (za3 0 ks) (PV.arr EK.u8 32 id)) (PV.sc EK.i 0))=true:=by
 refine ⟨zzq ks 0,zGu ks 0 _ rfl,?_⟩
 rw[zrg]
 cases zeJ ks id<;>rfl
theorem zAH {ks:List KN} {id:Vector UInt8 32} (h:zeJ ks id=none):mget (za3 0 ks) (.arr .u8 32 id)=none:=by rw[zrg,h]; rfl
theorem zyx {ks:List KN} {id:Vector UInt8 32} {i:Nat} (h:zeJ ks id=some i):mget (za3 0 ks) (.arr .u8 32 id)=some (.sc .i (i:Int)):=by
 rw[zrg,h]
 show some (PV.sc EK.i (0+(i:Int)))=_
 rw[Int.zero_add]
noncomputable def zak (blocks:List PV) (n:Int):KN:=lock (bif zdN blocks n then knOf (blocks.getD n.toNat .nilp)else kn0)
theorem zpp (blocks:List PV) (n:Int):zak blocks n=bif zdN blocks n then knOf (blocks.getD n.toNat .nilp)else kn0:=za7 _
theorem znZ {blocks:List PV} {n:Int}:zdN blocks n=true↔0≤n∧n < ((blocks.length:Nat):Int):=by
 unfold zdN
 rw[Bool.and_eq_true,decide_eq_true_iff,decide_eq_true_iff]
theorem zlP {ks:List KN} {n:Int} (h:zdN (ks.map knPV) n=true):zak (ks.map knPV) n=ks.getD n.toNat kn0∧n.toNat < ks.length∧0≤n:=by
 obtain ⟨h0,h1⟩:=znZ.1 h
 rw[List.length_map]at h1
 have hi:n.toNat < ks.length:=by omega
 rw[zpp,h]
 refine ⟨?_,hi,h0⟩
 show knOf ((ks.map knPV).getD n.toNat .nilp)=_
 rw[zdS _ _ _ (by simpa using hi),List.getElem_map,zn3,zdS _ _ _ hi]
structure rtC (blocks:List PV):Prop where
 ok:treeOK (blocks.map knOf)
 eq:(blocks.map knOf).map knPV=blocks
noncomputable instance rtC_dec (b:List PV):Decidable (rtC b):=Classical.propDecidable _
theorem rtC.get {b:List PV} (h:rtC b):∃ ks,treeOK ks∧b=ks.map knPV:=⟨_,h.ok,h.eq.symm⟩
theorem rt_c {ks:List KN} (h:treeOK ks):rtC (ks.map knPV):=⟨by rw[zjr]; exact h,by rw[zjr]⟩
noncomputable def zaA (blocks:List PV) (id:Vector UInt8 32):Int × Int:=lock (match zeJ (blocks.map knOf) id with
 | some i=>((i:Int),0)
 | none=>(0,6))
theorem zyO (blocks:List PV) (id:Vector UInt8 32):zaA blocks id=(match zeJ (blocks.map knOf) id with
 | some i=>((i:Int),0)
 | none=>(0,6)):=za7 _
noncomputable def zqR (blocks:List PV) (prev root:Vector UInt8 32) (time bits nonce:UInt32):Int × Int × List PV:=lock ((tAdd (blocks.map knOf) prev root time bits nonce).1,(tAdd (blocks.map knOf) prev root time bits nonce).2.1,(tAdd (blocks.map knOf) prev root time bits nonce).2.2.map knPV)
theorem zDx (blocks:List PV) (prev root:Vector UInt8 32) (time bits nonce:UInt32):zqR blocks prev root time bits nonce=((tAdd (blocks.map knOf) prev root time bits nonce).1,(tAdd (blocks.map knOf) prev root time bits nonce).2.1,(tAdd (blocks.map knOf) prev root time bits nonce).2.2.map knPV):=za7 _
noncomputable def zGH:List PV:=lock ([knBegin].map knPV)
theorem zDE:zGH=[knBegin].map knPV:=za7 _
theorem zIv {ks:List KN} {i:Nat} (h:i < ks.length):RC.get (RC.p 105 (ks.map knPV)) ([PE.i i]++[PE.f 0])=.arr .u8 32 (ks.getD i kn0).id:=by
 show PV.get ((ks.map knPV).getD i .nilp) [.f 0]=_
 rw[zdS _ _ _ (by simpa using h),List.getElem_map,←zdS ks i kn0 h]
 show PV.get (.arr .u8 32 (ks.getD i kn0).id) []=_
 rw[PV.get_nil]
theorem zJM {α:Type} {l:List α} {i:Nat} {x:α} {r:List α} (h:l.drop i=x :: r) (d:α):i < l.length∧l.getD i d=x∧l.drop (i+1)=r:=by
 have hi2:i < l.length:=by
  refine Nat.lt_of_not_le fun h'=>?_
  rw[List.drop_eq_nil_iff.2 h']at h
  cases h
 rw[List.drop_eq_getElem_cons hi2]at h
 exact ⟨hi2,by rw[zdS _ _ _ hi2]; exact (List.cons.inj h).1,(List.cons.inj h).2⟩
theorem zoU (k:KN):zaM [k]=0:=by
 show (if subB ([k].getD 0 kn0).work ([k].getD 0 kn0).work=true then 0 else 0)=0
 split<;>rfl
theorem zFD:tvNew.best=0:=by
 rw[zlU]
 show ((zaM [knBegin]:Nat):Int)=0
 rw[zoU]; rfl
theorem zd5 (k:KN) (r:List KN) (id:Vector UInt8 32):zeJ (k :: r) id=if id=k.id then some 0 else(zeJ r id).map (· + 1):=rfl
def zGk (blocks:List PV) (n:Int):Prop:=zdN blocks n=true→((zak blocks n).height+1) % 8≠0
noncomputable instance ctxOK_dec (b:List PV) (n:Int):Decidable (zGk b n):=Classical.propDecidable _
end Go.Proofs.YtnolgfdjcipmmaaDoor.M
