/- Part of the proofs: what functions of the program do: plain functions, and the walks that show it. No condition. -/
import Derived.KernelRfl
import Derived.Test.YtnolgfdjcipmmaaDoorLe
import Derived.Test.YtnolgfdjcipmmaaDoorStreS
import Derived.Test.YtnolgfdjcipmmaaDoorStarS
import Derived.Test.YtnolgfdjcipmmaaDoorSshaS
import Derived.Test.YtnolgfdjcipmmaaDoorSendS
import Derived.Test.YtnolgfdjcipmmaaDoorSbigS
import Derived.Test.YtnolgfdjcipmmaaDoorSwords
import Derived.Test.YtnolgfdjcipmmaaDoorSbigB
import Derived.Test.YtnolgfdjcipmmaaDoorSshaK
set_option linter.unusedVariables false
set_option linter.unusedSimpArgs false
set_option autoImplicit false
namespace Go.Proofs.YtnolgfdjcipmmaaDoor.M
open Go
def shF (p:List UInt8):Nat→Vector UInt32 8
 | 0=>zcS
 | n+1=>zh7 shaK (shF p n) (fun j=>p.getD (64*n+j) 0)
theorem zrN (p:List UInt8):∀ n,zjq p n=shF p n
 | 0=>rfl
 | n+1=>by rw[zjq,zg0,zrN p n]; rfl
def vB:Vector UInt8 32:=#v[165,124,103,4,254,95,212,153,101,16,47,51,244,0,145,4,66,87,7,240,236,71,217,120,203,3,48,20,97,218,15,67]
def vZ:Vector UInt8 32:=Vector.replicate 32 0
def vB1:Vector UInt8 32:=#v[218,186,200,83,230,131,136,75,187,139,150,235,17,1,110,143,67,18,182,249,228,176,125,141,36,87,47,170,173,227,57,148]
theorem zJm:za4 (zi7 vZ vZ 0 545259519 0)=vB1:=by rw[zf8,zrN,zlR]; decide +kernel
theorem zIP:idV vZ vZ 0 545259519 0=vB:=by rw[zyF,zJm,zf8,zrN]; decide +kernel
def v11:Vector UInt8 32:=#v[137,87,136,37,216,224,140,16,251,111,71,158,134,110,175,211,235,158,197,196,224,87,47,137,58,121,65,139,35,73,255,255]
def v1:Vector UInt8 32:=#v[190,232,201,161,205,94,111,215,106,94,127,97,17,98,232,180,207,103,96,18,59,72,117,143,115,246,16,106,72,147,83,70]
theorem zJo:za4 (zi7 vB vZ 0 545259519 0)=v11:=by rw[zf8,zrN,zlR]; decide +kernel
theorem zJL:idV vB vZ 0 545259519 0=v1:=by rw[zyF,zJo,zf8,zrN]; decide +kernel
def v21:Vector UInt8 32:=#v[14,58,204,87,162,137,57,231,194,183,88,61,166,98,44,61,242,175,23,34,201,168,63,46,127,49,239,178,27,137,165,236]
def v2:Vector UInt8 32:=#v[71,155,156,250,196,38,176,13,150,188,152,156,146,192,175,87,64,127,216,32,99,32,234,80,107,152,249,236,135,62,130,68]
theorem zJk:za4 (zi7 vZ vZ 1 545259519 0)=v21:=by rw[zf8,zrN,zlR]; decide +kernel
theorem zJO:idV vZ vZ 1 545259519 0=v2:=by rw[zyF,zJk,zf8,zrN]; decide +kernel
theorem zrl (ks:List KN) (prev root:Vector UInt8 32) (time bits nonce:UInt32):zaE (tvOf ks) prev root time bits nonce=((tAdd ks prev root time bits nonce).1,(tAdd ks prev root time bits nonce).2.1,tvOf (tAdd ks prev root time bits nonce).2.2):=by
 rw[zDc,zxn]
theorem zHI (ks:List KN) (prev root:Vector UInt8 32) (time bits nonce:UInt32):zqR (ks.map knPV) prev root time bits nonce=((tAdd ks prev root time bits nonce).1,(tAdd ks prev root time bits nonce).2.1,(tAdd ks prev root time bits nonce).2.2.map knPV):=by
 rw[zDx,zjr]
theorem zvi (ks:List KN) (prev root:Vector UInt8 32) (time bits nonce:UInt32) :
  (∃ e:Int,e≠0∧tAdd ks prev root time bits nonce=(0,e,ks)) ∨
  (∃ p,p < ks.length∧ks.length < 200∧tAdd ks prev root time bits nonce=((ks.length:Int),0,ks++[zdF ks p prev root time bits nonce])):=by
 unfold tAdd
 cases h1:zeJ ks (idV prev root time bits nonce) with
 | some i=>exact Or.inl ⟨7,by decide,rfl⟩
 | none =>
  cases h2:zeJ ks prev with
  | none=>exact Or.inl ⟨6,by decide,rfl⟩
  | some p =>
   by_cases h3:ofE bits≠0
   ·exact Or.inl ⟨5,by decide,by simp only[if_pos h3]⟩
   ·by_cases h4:200≤ks.length
    ·exact Or.inl ⟨3,by decide,by simp only[if_neg h3,if_pos h4]⟩
    ·exact Or.inr ⟨p,(zrr h2).1,by omega,by simp only[if_neg h3,if_neg h4]⟩
theorem zIH {ks:List KN} (ok:treeOK ks) {p:Nat} (hp:p < ks.length) (hl:ks.length < 200) (prev root:Vector UInt8 32) (time bits nonce:UInt32):treeOK (ks++[zdF ks p prev root time bits nonce]):=by
 refine ⟨by simp,by simp; omega,fun i hi=>?_⟩
 rw[List.length_append,List.length_singleton]at hi
 by_cases h:i < ks.length
 ·rw[zea _ _ _ _ h]; exact ok.par i h
 ·have:i=ks.length:=by omega
  subst this
  rw[zkS]
  show (_→((p:Nat):Int) = -1)∧(_→0≤((p:Nat):Int)∧((p:Nat):Int) < _)
  exact ⟨fun h=>by omega,fun h=>by omega⟩
theorem zBM {ks:List KN} (ok:treeOK ks) (prev root:Vector UInt8 32) (time bits nonce:UInt32):treeOK (tAdd ks prev root time bits nonce).2.2:=by
 rcases zvi ks prev root time bits nonce with ⟨e,_,h⟩ | ⟨p,hp,hl,h⟩
 ·rw[h]; exact ok
 ·rw[h]; exact zIH ok hp hl _ _ _ _ _
theorem zwm:treeOK [knBegin]:=⟨by simp,by simp,fun i hi=>by
 have:i=0:=by simpa using hi
 subst this
 exact ⟨fun _=>rfl,fun h=>by omega⟩⟩
theorem limE:ofE 545259519=0:=(zk1 _).2 zGb
theorem limW:zbN 545259519=uW 2:=by
 rw[zxK,if_pos (show okP (545259519:UInt32).toNat from zGb),show (545259519:UInt32).toNat=545259519 from rfl,zBp]
 exact congrArg uW (by decide)
theorem zJU:¬ v1=vB:=by decide +kernel
theorem zJR:¬ v2=vB:=by decide +kernel
theorem zJn:¬ v2=v1:=by decide +kernel
theorem z_ne:¬ vZ=vB:=by decide +kernel
theorem zJZ:¬ vZ=v1:=by decide +kernel
theorem zou:knBegin.id=vB:=zIP
noncomputable def knOne:KN:=zdF [knBegin] 0 vB vZ 0 545259519 0
theorem zIy:knOne.id=v1:=zJL
theorem liv1:tAdd [knBegin] vB vZ 0 545259519 0=(1,0,[knBegin,knOne]):=by
 unfold tAdd
 rw[zJL,zd5,zou,if_neg zJU]
 show (match zeJ [knBegin] vB with
  | none=>_
  | some p=>_)=_
 rw[zd5,zou,if_pos rfl]
 show (if ofE 545259519≠0 then _ else if 200≤1 then _ else _)=_
 rw[if_neg (fun h=>h limE),if_neg (by decide)]
 rfl
theorem liv2:tAdd [knBegin,knOne] vZ vZ 1 545259519 0=(0,6,[knBegin,knOne]):=by
 unfold tAdd
 rw[zJO,zd5,zou,if_neg zJR,zd5,zIy,if_neg zJn]
 show (match zeJ [knBegin,knOne] vZ with
  | none=>_
  | some p=>_)=_
 rw[zd5,zou,if_neg z_ne,zd5,zIy,if_neg zJZ]
 rfl
theorem liv3:tAdd [knBegin,knOne] vZ vZ 0 545259519 0=(0,7,[knBegin,knOne]):=by
 unfold tAdd
 rw[zIP,zd5,zou,if_pos rfl]
theorem zDL:treeOK [knBegin,knOne]:=by
 have:=zBM zwm vB vZ 0 545259519 0
 rwa [liv1]at this
theorem zHz:zaM [knBegin,knOne]=1:=by
 have:=zjD (ks:=[knBegin]) (by simp) knOne
 rw[zoU]at this
 refine this.trans (if_pos ?_)
 show subB (zbN 545259519) (zkw (zbN 545259519) (zbN 545259519))=true
 have ha:addB (uW 2) (uW 2)=false:=by
  unfold addB
  rw[za7,zfy]
  decide
 unfold zkw
 rw[limW,ha]
 show subB (uW 2) (addV (uW 2) (uW 2))=true
 unfold addV
 rw[za7,zgr,zfy,zfy]
 decide
def treT:TY:=.st [.st [.arr .u8 32,.arr .u8 32,.sc .u32,.sc .u32,.sc .u32],.sc .i,.sc .b,.sc .b]
def zAO (l:List PV):Bool:=l.all (TY.chk treT)
theorem zGA {l:List PV} (h:zAO l=true) {i:Nat} (hi:i < l.length):TY.chk treT (List.getD l i PV.nilp)=true:=by
 rw[zdS _ _ _ hi]
 exact List.all_eq_true.1 h _ (List.getElem_mem hi)
theorem zuP {ks:List KN} (h:ks≠[]) (k:KN)
  (h1:∀ i,i < ks.length→¬ uV (ks.getD (zaM ks) kn0).work < uV (ks.getD i kn0).work) (h2:∀ i,i < zaM ks→uV (ks.getD i kn0).work < uV (ks.getD (zaM ks) kn0).work) :
  (∀ i,i < (ks++[k]).length→¬ uV ((ks++[k]).getD (zaM (ks++[k])) kn0).work < uV ((ks++[k]).getD i kn0).work)∧(∀ i,i < zaM (ks++[k])→uV ((ks++[k]).getD i kn0).work < uV ((ks++[k]).getD (zaM (ks++[k])) kn0).work):=by
 have hb:=zok h
 rw[zjD h]
 by_cases hs:subB (ks.getD (zaM ks) kn0).work k.work=true
 ·have hs':=hs
  rw[zgr,decide_eq_true_iff]at hs'
  rw[if_pos hs,zkS]
  refine ⟨fun i hi=>?_,fun i hi=>?_⟩
  ·rw[List.length_append,List.length_singleton]at hi
   by_cases e:i < ks.length
   ·rw[zea _ _ _ _ e]; have:=h1 i e; omega
   ·rw[show i=ks.length by omega,zkS]; omega
  ·rw[zea _ _ _ _ hi]; have:=h1 i hi; omega
 ·have hs':=hs
  rw[zgr,decide_eq_true_iff]at hs'
  rw[if_neg hs,zea _ _ _ _ hb]
  refine ⟨fun i hi=>?_,fun i hi=>?_⟩
  ·rw[List.length_append,List.length_singleton]at hi
   by_cases e:i < ks.length
   ·rw[zea _ _ _ _ e]; exact h1 i e
   ·rw[show i=ks.length by omega,zkS]; exact hs'
  ·rw[zea _ _ _ _ (by omega)]; exact h2 i hi
theorem zsb:∀ (n:Nat) (ks:List KN),ks.length=n+1 →
  (∀ i,i < ks.length→¬ uV (ks.getD (zaM ks) kn0).work < uV (ks.getD i kn0).work)∧(∀ i,i < zaM ks→uV (ks.getD i kn0).work < uV (ks.getD (zaM ks) kn0).work)
 | 0,ks,h=>by
  obtain ⟨k,rfl⟩:=List.length_eq_one_iff.1 h
  rw[zoU]
  refine ⟨fun i hi=>?_,fun i hi=>by omega⟩
  rw[show i=0 by simpa using hi]
  exact Nat.lt_irrefl _
 | n+1,ks,h=>by
  rcases List.eq_nil_or_concat ks with rfl | ⟨L,b,rfl⟩
  ·cases h
  ·rw[List.concat_eq_append]at h ⊢
   rw[List.length_append,List.length_singleton]at h
   have hL:L≠[]:=fun e=>by rw[e]at h; simp at h
   obtain ⟨h1,h2⟩:=zsb n L (by omega)
   exact zuP hL b h1 h2
theorem zHv {ks:List KN} {i:Nat} (h:i < ks.length):subB (ks.getD (zaM ks) kn0).work (ks.getD i kn0).work=false:=by
 rw[zgr]
 exact decide_eq_false ((zsb (ks.length - 1) ks (by omega)).1 i h)
theorem zFE {ks:List KN} (h0:ks≠[]) {i:Nat} (h:i < zaM ks):subB (ks.getD i kn0).work (ks.getD (zaM ks) kn0).work=true:=by
 have:0 < ks.length:=List.length_pos_iff.2 h0
 rw[zgr]
 exact decide_eq_true ((zsb (ks.length - 1) ks (by omega)).2 i h)
theorem zGt {ks:List KN} {i:Nat} (h:i < ks.length):zdN (ks.map knPV) (i:Int)=true:=znZ.2 ⟨by omega,by rw[List.length_map]; omega⟩
theorem zDK {ks:List KN} {i:Nat} (h:i < ks.length):zak (ks.map knPV) (i:Int)=ks.getD i kn0:=(zlP (zGt h)).1
theorem zJS {n:Nat} (h0:0 < n) (h:n≤200) (x:UInt64):UInt64.ofInt ((n:Nat):Int)≠0∧∃ j:Nat,j < n∧w64 (((x % UInt64.ofInt ((n:Nat):Int)).toNat:Nat):Int)=(j:Int):=by
 have e:(UInt64.ofInt ((n:Nat):Int)).toNat=n:=zto (by omega)
 have hl:(x % UInt64.ofInt ((n:Nat):Int)).toNat < n:=by
  rw[UInt64.toNat_mod,e]
  exact Nat.mod_lt _ h0
 refine ⟨fun h=>?_,_,hl,zaj (by omega) (by omega)⟩
 rw[h]at e
 have:n=0:=e.symm
 omega
end Go.Proofs.YtnolgfdjcipmmaaDoor.M
