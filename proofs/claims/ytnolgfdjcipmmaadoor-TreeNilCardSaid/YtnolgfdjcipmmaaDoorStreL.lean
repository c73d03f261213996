/- Part of the proofs: what functions of the program do: plain functions, and the walks that show it. No condition. -/
import Derived.KernelRfl
import Derived.Test.YtnolgfdjcipmmaaDoorLe
import Derived.Test.YtnolgfdjcipmmaaDoorStreS
import Derived.Test.YtnolgfdjcipmmaaDoorStarS
import Derived.Test.YtnolgfdjcipmmaaDoorSshaS
import Derived.Test.YtnolgfdjcipmmaaDoorSendS
import Derived.Test.YtnolgfdjcipmmaaDoorSbigS
import Derived.Test.YtnolgfdjcipmmaaDoorSwords
import Derived.Test.YtnolgfdjcipmmaaDoorSbigB
import Derived.Test.YtnolgfdjcipmmaaDoorSshaK
set_option linter.unusedVariables false
set_option linter.unusedSimpArgs false
set_option autoImplicit false
namespace Go.Proofs.YtnolgfdjcipmmaaDoor.M
open Go
def shF (p:List UInt8):Nat→Vector UInt32 8
  | 0=>zb4
  | n+1=>zhq shaK (shF p n) (fun j=>p.getD (64*n+j) 0)
theorem zsf (p:List UInt8):∀ n,ziQ p n=shF p n
  | 0=>rfl
  | n+1=>by rw[ziQ,zfW,zsf p n]; rfl
def vB:Vector UInt8 32:=#v[165,124,103,4,254,95,212,153,101,16,47,51,244,0,145,4,66,87,7,240,236,71,217,120,203,3,48,20,97,218,15,67]
def vZ:Vector UInt8 32:=Vector.replicate 32 0
def vB1:Vector UInt8 32:=#v[218,186,200,83,230,131,136,75,187,139,150,235,17,1,110,143,67,18,182,249,228,176,125,141,36,87,47,170,173,227,57,148]
theorem zH7:zaQ (zix vZ vZ 0 545259519 0)=vB1:=by rw[zeP,zsf,zle]; decide +kernel
theorem zG8:idV vZ vZ 0 545259519 0=vB:=by rw[zy1,zH7,zeP,zsf]; decide +kernel
def v11:Vector UInt8 32:=#v[137,87,136,37,216,224,140,16,251,111,71,158,134,110,175,211,235,158,197,196,224,87,47,137,58,121,65,139,35,73,255,255]
def v1:Vector UInt8 32:=#v[190,232,201,161,205,94,111,215,106,94,127,97,17,98,232,180,207,103,96,18,59,72,117,143,115,246,16,106,72,147,83,70]
theorem zHH:zaQ (zix vB vZ 0 545259519 0)=v11:=by rw[zeP,zsf,zle]; decide +kernel
theorem zHK:idV vB vZ 0 545259519 0=v1:=by rw[zy1,zHH,zeP,zsf]; decide +kernel
def v21:Vector UInt8 32:=#v[14,58,204,87,162,137,57,231,194,183,88,61,166,98,44,61,242,175,23,34,201,168,63,46,127,49,239,178,27,137,165,236]
def v2:Vector UInt8 32:=#v[71,155,156,250,196,38,176,13,150,188,152,156,146,192,175,87,64,127,216,32,99,32,234,80,107,152,249,236,135,62,130,68]
theorem zHL:zaQ (zix vZ vZ 1 545259519 0)=v21:=by rw[zeP,zsf,zle]; decide +kernel
theorem zIe:idV vZ vZ 1 545259519 0=v2:=by rw[zy1,zHL,zeP,zsf]; decide +kernel
theorem zwA (ks:List KN) (prev root:Vector UInt8 32) (time bits nonce:UInt32):zaH (tvOf ks) prev root time bits nonce=((tAdd ks prev root time bits nonce).1,(tAdd ks prev root time bits nonce).2.1,tvOf (tAdd ks prev root time bits nonce).2.2):=by
  rw[zB2,zxf]
theorem zDo (ks:List KN) (prev root:Vector UInt8 32) (time bits nonce:UInt32) :
    (∃ e:Int,e≠0∧tAdd ks prev root time bits nonce=(0,e,ks)) ∨
    (∃ p,p < ks.length∧ks.length < 200∧tAdd ks prev root time bits nonce=((ks.length:Int),0,ks++[zhU ks p prev root time bits nonce])):=by
  unfold tAdd
  cases h1:zgZ ks (idV prev root time bits nonce) with
  | some i=>exact Or.inl ⟨7,by decide,rfl⟩
  | none =>
    cases h2:zgZ ks prev with
    | none=>exact Or.inl ⟨6,by decide,rfl⟩
    | some p =>
      by_cases h3:ofE bits≠0
      · exact Or.inl ⟨5,by decide,by simp only[if_pos h3]⟩
      · by_cases h4:200≤ks.length
        · exact Or.inl ⟨3,by decide,by simp only[if_neg h3,if_pos h4]⟩
        · exact Or.inr ⟨p,(zwI h2).1,by omega,by simp only[if_neg h3,if_neg h4]⟩
theorem zG7 {ks:List KN} (ok:treeOK ks) {p:Nat} (hp:p < ks.length) (hl:ks.length < 200) (prev root:Vector UInt8 32) (time bits nonce:UInt32):treeOK (ks++[zhU ks p prev root time bits nonce]):=by
  refine ⟨by simp,by simp; omega,fun i hi=>?_⟩
  rw[List.length_append,List.length_singleton]at hi
  by_cases h:i < ks.length
  · rw[zkC _ _ _ _ h]; exact ok.par i h
  · have:i=ks.length:=by omega
    subst this
    rw[zya]
    show (_→((p:Nat):Int) = -1)∧(_→0≤((p:Nat):Int)∧((p:Nat):Int) < _)
    exact ⟨fun h=>by omega,fun h=>by omega⟩
theorem zHa {ks:List KN} (ok:treeOK ks) (prev root:Vector UInt8 32) (time bits nonce:UInt32):treeOK (tAdd ks prev root time bits nonce).2.2:=by
  rcases zDo ks prev root time bits nonce with ⟨e,_,h⟩ | ⟨p,hp,hl,h⟩
  · rw[h]; exact ok
  · rw[h]; exact zG7 ok hp hl _ _ _ _ _
theorem zCq:treeOK [knBegin]:=⟨by simp,by simp,fun i hi=>by
  have:i=0:=by simpa using hi
  subst this
  exact ⟨fun _=>rfl,fun h=>by omega⟩⟩
theorem limE:ofE 545259519=0:=(zox _).2 zEy
theorem limW:zcn 545259519=uW 2:=by
  rw[zCp,if_pos (show okP (545259519:UInt32).toNat from zEy),show (545259519:UInt32).toNat=545259519 from rfl,zAh]
  exact congrArg uW (by decide)
theorem zIc:¬ v1=vB:=by decide +kernel
theorem zIk:¬ v2=vB:=by decide +kernel
theorem zH6:¬ v2=v1:=by decide +kernel
theorem z_ne:¬ vZ=vB:=by decide +kernel
theorem zIf:¬ vZ=v1:=by decide +kernel
theorem znk:knBegin.id=vB:=zG8
noncomputable def knOne:KN:=zhU [knBegin] 0 vB vZ 0 545259519 0
theorem zGS:knOne.id=v1:=zHK
theorem liv1:tAdd [knBegin] vB vZ 0 545259519 0=(1,0,[knBegin,knOne]):=by
  unfold tAdd
  rw[zHK,zd6,znk,if_neg zIc]
  show (match zgZ [knBegin] vB with
    | none=>_
    | some p=>_)=_
  rw[zd6,znk,if_pos rfl]
  show (if ofE 545259519≠0 then _ else if 200≤1 then _ else _)=_
  rw[if_neg (fun h=>h limE),if_neg (by decide)]
  rfl
theorem liv2:tAdd [knBegin,knOne] vZ vZ 1 545259519 0=(0,6,[knBegin,knOne]):=by
  unfold tAdd
  rw[zIe,zd6,znk,if_neg zIk,zd6,zGS,if_neg zH6]
  show (match zgZ [knBegin,knOne] vZ with
    | none=>_
    | some p=>_)=_
  rw[zd6,znk,if_neg z_ne,zd6,zGS,if_neg zIf]
  rfl
theorem liv3:tAdd [knBegin,knOne] vZ vZ 0 545259519 0=(0,7,[knBegin,knOne]):=by
  unfold tAdd
  rw[zG8,zd6,znk,if_pos rfl]
theorem zCB:treeOK [knBegin,knOne]:=by
  have:=zHa zCq vB vZ 0 545259519 0
  rwa [liv1]at this
theorem zGC:zeZ [knBegin,knOne]=1:=by
  have:=zrh (ks:=[knBegin]) (by simp) knOne
  rw[zus]at this
  refine this.trans (if_pos ?_)
  show subB (zcn 545259519) (zqW (zcn 545259519) (zcn 545259519))=true
  have ha:addB (uW 2) (uW 2)=false:=by
    unfold addB
    rw[za1,zhJ]
    decide
  unfold zqW
  rw[limW,ha]
  show subB (uW 2) (addV (uW 2) (uW 2))=true
  unfold addV
  rw[za1,zrp,zhJ,zhJ]
  decide
end Go.Proofs.YtnolgfdjcipmmaaDoor.M
