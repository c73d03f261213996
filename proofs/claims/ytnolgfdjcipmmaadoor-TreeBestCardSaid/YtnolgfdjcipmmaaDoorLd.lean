/- Part of the proofs: a reckoning of code on values by names, shown sound against the model. No condition. -/
import Derived.LoopN
import Derived.Scope
import Derived.Test.YtnolgfdjcipmmaaDoorLc
set_option linter.unusedVariables false
set_option linter.unusedSimpArgs false
set_option autoImplicit false
namespace Go.Proofs.YtnolgfdjcipmmaaDoor.M
open Go
def zdC (c:List (Nat × Option (List PE))):List Nat:=c.map (·.1)
def Out.writes (o:Out):List Nat:=o.upd.map (·.1)++zdC o.cut
theorem zrn {c:List (Nat × Option (List PE))} {v:Bool} {n:Nat} {π:List PE} (h:n ∉ zdC c):zar c v n π=true:=by
 unfold zar
 rw[List.all_eq_true]
 intro e he
 have hne:n≠e.1:=fun q=>h (by rw[q]; exact List.mem_map_of_mem he)
 have:Nat.beq n e.1=false:=by
  cases hq:Nat.beq n e.1 with
  | false=>rfl
  | true=>exact absurd (nbeq.1 hq) hne
 obtain ⟨a,b⟩:=e
 cases b<;>simp only at this ⊢<;>rw[this]<;>rfl
mutual
theorem A.all_of {c:List (Nat × Option (List PE))}:∀ (x:A),(∀ n ∈ x.names,n ∉ zdC c)→x.all (zar c)=true
 | .pv _,_=>rfl
 | .rp _,_=>rfl
 | .und,_=>rfl
 | .bad,_=>rfl
 | .p n π,h=>by rw[A.all]; exact zrn (h n (by simp[A.names]))
 | .pr n π q l,h=>by rw[A.all]; exact zrn (h n (by simp[A.names]))
 | .o n,h=>by rw[A.all]; exact zrn (h n (by simp[A.names]))
 | .vw n π q l d,h=>by rw[A.all]; exact zrn (h n (by simp[A.names]))
 | .st fs,h=>by rw[A.all]; exact A.allL_of fs (by simpa [A.names] using h)
 | .tup fs,h=>by rw[A.all]; exact A.allL_of fs (by simpa [A.names] using h)
 | .fn _ fs,h=>by rw[A.all]; exact A.allL_of fs (by simpa [A.names] using h)
theorem A.allL_of {c:List (Nat × Option (List PE))}:∀ (xs:List A),(∀ n ∈ A.namesL xs,n ∉ zdC c)→A.allL (zar c) xs=true
 | [],_=>rfl
 | x :: xs,h=>by
  rw[A.allL,A.all_of x (fun n hn=>h n (by simp[A.namesL,hn])),A.allL_of xs (fun n hn=>h n (by simp[A.namesL,hn]))]; rfl
end
theorem Blk.all_of {c:List (Nat × Option (List PE))} (b:Blk) (h:∀ n ∈ b.names,n ∉ zdC c):b.all (zar c)=true:=by
 cases b with
 | box x=>exact A.all_of x h
 | row _ _=>rfl
 | map _=>rfl
def Same (L L':Nat→Option Blk) (ns:List Nat):Prop:=∀ n ∈ ns,L' n=L n
section
variable {P:Program} {L L':Nat→Option Blk}
theorem zdK {d:Nat} (h:L' d=L d) (b:Blk) (x:A):zfC L' d b x=zfC L d b x:=by unfold zfC; rw[h]
theorem zf7 {x:A} (h:Same L L' x.names):ze0 L' x=ze0 L x:=by
 cases x with
 | pv p=>cases p<;>rfl
 | rp p=>cases p<;>rfl
 | p n π=>first | rfl | (have:=h n (by simp[A.names]); simp only[ze0,this])
 | pr n π q l=>first | rfl | (have:=h n (by simp[A.names]); simp only[ze0,this])
 | o n=>first | rfl | (have:=h n (by simp[A.names]); simp only[ze0,this])
 | vw n π q l c=>first | rfl | (have:=h n (by simp[A.names]); simp only[ze0,this])
 | _=>rfl
theorem zAd {t:TypeId} {x:A} (h:Same L L' x.names):zgX P L' t x=zgX P L t x:=by
 cases x with
 | pv p=>cases p<;>rfl
 | rp p=>cases p<;>rfl
 | p n π=>first | rfl | (have:=h n (by simp[A.names]); simp only[zgX,this])
 | pr n π q l=>first | rfl | (have:=h n (by simp[A.names]); simp only[zgX,this])
 | o n=>first | rfl | (have:=h n (by simp[A.names]); simp only[zgX,this])
 | vw n π q l c=>first | rfl | (have:=h n (by simp[A.names]); simp only[zgX,this])
 | _=>rfl
theorem zxl {t:TypeId} {x y:A} (h:Same L L' x.names):zgj P L' t x y=zgj P L t x y:=by
 cases x with
 | pv p=>cases p<;>rfl
 | rp p=>cases p<;>rfl
 | p n π=>first | rfl | (have:=h n (by simp[A.names]); simp only[zgj,this])
 | pr n π q l=>first | rfl | (have:=h n (by simp[A.names]); simp only[zgj,this])
 | o n=>first | rfl | (have:=h n (by simp[A.names]); simp only[zgj,this])
 | vw n π q l c=>first | rfl | (have:=h n (by simp[A.names]); simp only[zgj,this])
 | _=>rfl
theorem zoS {t:TypeId} {x:A} {j:Int} (h:Same L L' x.names):zcr P L' t x j=zcr P L t x j:=by
 cases x with
 | pv p=>cases p<;>rfl
 | rp p=>cases p<;>rfl
 | p n π=>first | rfl | (have:=h n (by simp[A.names]); simp only[zcr,this])
 | pr n π q l=>first | rfl | (have:=h n (by simp[A.names]); simp only[zcr,this])
 | o n=>first | rfl | (have:=h n (by simp[A.names]); simp only[zcr,this])
 | vw n π q l c=>first | rfl | (have:=h n (by simp[A.names]); simp only[zcr,this])
 | _=>rfl
theorem zpB {t:TypeId} {x:A} {j:Nat} (h:Same L L' x.names):zbS P L' t x j=zbS P L t x j:=by
 cases x with
 | pv p=>cases p<;>rfl
 | rp p=>cases p<;>rfl
 | p n π=>first | rfl | (have:=h n (by simp[A.names]); simp only[zbS,this])
 | pr n π q l=>first | rfl | (have:=h n (by simp[A.names]); simp only[zbS,this])
 | o n=>first | rfl | (have:=h n (by simp[A.names]); simp only[zbS,this])
 | vw n π q l c=>first | rfl | (have:=h n (by simp[A.names]); simp only[zbS,this])
 | _=>rfl
theorem zxZ {t:TypeId} {x:A} {lo hi mx:Option Int} (h:Same L L' x.names):zfu P L' t x lo hi mx=zfu P L t x lo hi mx:=by
 cases x with
 | pv p=>cases p<;>rfl
 | rp p=>cases p<;>rfl
 | p n π=>first | rfl | (have:=h n (by simp[A.names]); simp only[zfu,this])
 | pr n π q l=>first | rfl | (have:=h n (by simp[A.names]); simp only[zfu,this])
 | o n=>first | rfl | (have:=h n (by simp[A.names]); simp only[zfu,this])
 | vw n π q l c=>first | rfl | (have:=h n (by simp[A.names]); simp only[zfu,this])
 | _=>rfl
theorem zAe {t:TypeId} {x y:A} (h:Same L L' x.names) (h2:Same L L' y.names):zl2 P L' t x y=zl2 P L t x y:=by
 unfold zl2
 rw[zf7 h2]
 cases x with
 | o n=>simp only; rw[h n (by simp[A.names])]
 | vw n π off len cap=>cases π<;>(simp only; rw[h n (by simp[A.names])])
 | _=>rfl
theorem zuB {s t:TypeId} {x:A} (h:Same L L' x.names):ziI P L' s t x=ziI P L s t x:=by
 cases x with
 | o n=>simp only[ziI]; rw[h n (by simp[A.names])]
 | _=>rfl
theorem zCg {t:TypeId} {x:A} (h:Same L L' x.names):zs2 P L' t x=zs2 P L t x:=by
 cases x with
 | pv p=>cases p<;>rfl
 | rp p=>cases p<;>rfl
 | p n π=>first | rfl | (have:=h n (by simp[A.names]); simp only[zs2,this])
 | pr n π q l=>first | rfl | (have:=h n (by simp[A.names]); simp only[zs2,this])
 | o n=>first | rfl | (have:=h n (by simp[A.names]); simp only[zs2,this])
 | vw n π q l c=>first | rfl | (have:=h n (by simp[A.names]); simp only[zs2,this])
 | _=>rfl
theorem zFo {x:A} (h:Same L L' x.names):lenA L' x=lenA L x:=by
 cases x with
 | pv p=>cases p<;>rfl
 | rp p=>cases p<;>rfl
 | p n π=>first | rfl | (have:=h n (by simp[A.names]); simp only[lenA,this])
 | pr n π q l=>first | rfl | (have:=h n (by simp[A.names]); simp only[lenA,this])
 | o n=>first | rfl | (have:=h n (by simp[A.names]); simp only[lenA,this])
 | vw n π q l c=>first | rfl | (have:=h n (by simp[A.names]); simp only[lenA,this])
 | _=>rfl
theorem zEF {x:A} (h:Same L L' x.names):capA L' x=capA L x:=by
 cases x with
 | o n=>simp only[capA]; rw[h _ (by simp[A.names])]
 | vw n π q l c=>cases c<;>rfl
 | _=>rfl
theorem zCH {t:TypeId} {x:A} (h:Same L L' x.names):zEj P L' t x=zEj P L t x:=by unfold zEj; rw[zFo h]
theorem zBx {t:TypeId} {x:A} (h:Same L L' x.names):zEy P L' t x=zEy P L t x:=by unfold zEy; rw[zEF h]
theorem zux {e:TypeId} {z:Bool} {y:A} (h:Same L L' y.names):zhL P L' e z y=zhL P L e z y:=by unfold zhL; rw[zf7 h]
theorem zmk {d:Nat} {t t1:TypeId} {nilc:Bool} {x y:A} (hd:L' d=L d) (hx:Same L L' x.names) (hy:Same L L' y.names):zeV P L' d t t1 nilc x y=zeV P L d t t1 nilc x y:=by
 unfold zeV
 split
 ·simp only[zf7 hx,zux hy,zdK hd,hd]
 ·rfl
theorem zpk {d:Nat} {t:TypeId} {l c:Int} {ex:Bool} (hd:L' d=L d):zdI P L' d t l c ex=zdI P L d t l c ex:=by
 unfold zdI
 simp only[zdK hd]
theorem znO {d:Nat} {t:TypeId} {n:Nat} {ps:List (Nat × A)} (hd:L' d=L d):zdZ P L' d t n ps=zdZ P L d t n ps:=by
 unfold zdZ
 simp only[zdK hd]
theorem zBH {x:A} (h:Same L L' x.names):zjC L' x=zjC L x:=by
 cases x with
 | p n π=>simp only[zjC]; rw[h _ (by simp[A.names])]
 | pr n π q l=>simp only[zjC]; rw[h _ (by simp[A.names])]
 | o n=>simp only[zjC]; rw[zf7 h]
 | vw n π q l c=>simp only[zjC]; rw[zf7 h]
 | fn f cs=>cases cs<;>rfl
 | _=>rfl
theorem zqw:∀ {xs:List A},(∀ x ∈ xs,Same L L' x.names)→zob L' xs=zob L xs
 | [],_=>rfl
 | x :: xs,h=>by
  have h2:∀ y ∈ xs,Same L L' y.names:=fun y hy=>h y (List.mem_cons_of_mem _ hy)
  simp only[zob,zBH (h x (by simp)),zqw h2]
theorem zCA {G:Nat→Option PV} {e e':Nat→A} {x:Operand} (h:∀ t,x=.tmp t→e' t=e t):ziF G e' x=ziF G e x:=by
 cases x with
 | tmp t=>exact h t rfl
 | _=>rfl
theorem zm8 {ρ ρ':Operand→A} {d:Nat} {o:Oper} (hρ:∀ x ∈ o.op.operands,ρ' x=ρ x) (hd:L' d=L d) (hL:∀ x ∈ o.op.operands,Same L L' (ρ x).names):zbt P L' d ρ' o=zbt P L d ρ o:=by
 have parts:∀ ps:Array (Nat × Operand),(∀ x ∈ (ps.toList.map (·.2)).toArray,ρ' x=ρ x)→(ps.toList.map fun p=>(p.1,ρ' p.2))=ps.toList.map fun p=>(p.1,ρ p.2):=by
  intro ps h
  refine List.map_congr_left fun p hp=>?_
  rw[h p.2 (by simp; exact ⟨p.1,by simpa using hp⟩)]
 have idx:∀ z:Option Operand,(∀ x ∈ z,ρ' x=ρ x)→idxO ρ' z=idxO ρ z:=by
  intro z h
  cases z with
  | none=>rfl
  | some x=>simp only[idxO]; rw[h x rfl]
 unfold zbt
 cases hop:o.op with
 | move x=>simp only[hop,Op.operands]at hρ hL ⊢; rw[hρ x (by simp)]; simp only[zdK hd]
 | assign x=>simp only[hop,Op.operands]at hρ hL ⊢; rw[hρ x (by simp)]; simp only[zdK hd]
 | pick c x y=>simp only[hop,Op.operands]at hρ hL ⊢; rw[hρ c (by simp),hρ x (by simp),hρ y (by simp)]
 | alloc t=>simp only[zxe,zdK hd]
 | box t x=>simp only[hop,Op.operands]at hρ hL ⊢; rw[hρ x (by simp)]; simp only[zHu,zdK hd]
 | build t ps=>simp only[hop,Op.operands]at hρ hL ⊢; rw[parts ps hρ]
 | buildSlice t n ps=>simp only[hop,Op.operands]at hρ hL ⊢; rw[parts ps hρ,znO hd]
 | load t x=>simp only[hop,Op.operands]at hρ hL ⊢; rw[hρ x (by simp),zAd (hL x (by simp))]
 | store t x y=>simp only[hop,Op.operands]at hρ hL ⊢; rw[hρ x (by simp),hρ y (by simp),zxl (hL x (by simp))]
 | nilCheck x=>simp only[hop,Op.operands]at hρ hL ⊢; rw[hρ x (by simp)]
 | binOp op t x y z=>simp only[hop,Op.operands]at hρ hL ⊢; rw[hρ x (by simp),hρ y (by simp)]
 | unOp op t x=>simp only[hop,Op.operands]at hρ hL ⊢; rw[hρ x (by simp)]
 | convert s t x=>simp only[hop,Op.operands]at hρ hL ⊢; rw[hρ x (by simp),zuB (hL x (by simp))]
 | sliceToArrayPointer t x=>simp only[hop,Op.operands]at hρ hL ⊢; rw[hρ x (by simp),zCg (hL x (by simp))]
 | makeSlice t l c=>simp only[hop,Op.operands]at hρ hL ⊢; rw[hρ l (by simp),hρ c (by simp)]; simp only[zpk hd]
 | slice t x lo hi mx =>
  simp only[hop,Op.operands]at hρ hL ⊢
  rw[hρ x (by simp),idx lo (fun z hz=>hρ z (by simp[Option.mem_def.1 hz])),idx hi (fun z hz=>hρ z (by simp[Option.mem_def.1 hz])),idx mx (fun z hz=>hρ z (by simp[Option.mem_def.1 hz]))]
  simp only[zxZ (hL x (by simp))]
 | fieldAddr t x f=>simp only[hop,Op.operands]at hρ hL ⊢; rw[hρ x (by simp),zpB (hL x (by simp))]
 | field t x f=>simp only[hop,Op.operands]at hρ hL ⊢; rw[hρ x (by simp)]
 | indexAddr t x i=>simp only[hop,Op.operands]at hρ hL ⊢; rw[hρ x (by simp),hρ i (by simp)]; simp only[zoS (hL x (by simp))]
 | index t x i=>simp only[hop,Op.operands]at hρ hL ⊢; rw[hρ x (by simp),hρ i (by simp)]
 | extract x i=>simp only[hop,Op.operands]at hρ hL ⊢; rw[hρ x (by simp)]
 | makeFunc fn first caps =>
  simp only[hop,Op.operands]at hρ hL ⊢
  have hm:caps.toList.map ρ'=caps.toList.map ρ:=List.map_congr_left fun x hx=>hρ x (by simp only[Array.mem_append]; right; simpa using hx)
  cases fn<;>simp only[hm]
 | call c =>
  simp only[hop,Op.operands,Call.operands]at hρ hL ⊢
  cases hc:c.callee with
  | builtin b =>
   simp only
   have hρ':∀ x ∈ c.args.toList,ρ' x=ρ x:=fun x hx=>hρ x (by simp[hc]; simpa using hx)
   have hL':∀ x ∈ c.args.toList,Same L L' (ρ x).names:=fun x hx=>hL x (by simp[hc]; simpa using hx)
   generalize c.args.toList=xs at *
   generalize c.argTypes.toList=ts at *
   unfold zf1
   split
   ·rename_i x y t t1
    rw[hρ' x (by simp),hρ' y (by simp),zmk hd (hL' x (by simp)) (hL' y (by simp))]
   ·rename_i x t
    rw[hρ' x (by simp),zCH (hL' x (by simp))]
   ·rename_i x t
    rw[hρ' x (by simp),zBx (hL' x (by simp))]
   ·rename_i x y t t2
    rw[hρ' x (by simp),hρ' y (by simp),zAe (hL' x (by simp)) (hL' y (by simp))]
   ·rename_i x y
    rw[hρ' x (by simp),hρ' y (by simp)]
   ·rename_i x y
    rw[hρ' x (by simp),hρ' y (by simp)]
   ·rfl
  | _=>rfl
 | _=>rfl
theorem zqb {ρ ρ':Operand→A} {d:Nat} {o:Oper} {out:Out} (h:zjW P L d ρ o=some out) (hρ:∀ x ∈ o.op.operands,ρ' x=ρ x) (hd:L' d=L d) (hL:∀ x ∈ o.op.operands,Same L L' (ρ x).names)
  (hw:∀ n ∈ out.writes,L' n=L n):zjW P L' d ρ' o=some out:=by
 unfold zjW at h ⊢
 cases hsi:siB o with
 | true =>
  rw[hsi,cond_true]at h
  rw[cond_true,zET hρ]
  exact h
 | false =>
 rw[hsi,cond_false]at h
 rw[cond_false]
 have hn:nilN L' d o=nilN L d o:=by unfold nilN; rw[hd]
 rw[hn]
 cases hnl:nilN L d o with
 | true =>
  rw[hnl,cond_true]at h
  rw[cond_true]
  have:=zCM hnl h
  rw[zm8 hρ (hw (d+30000) (by simp only[Out.writes,List.mem_append]; exact .inl this)) hL]
  exact h
 | false =>
 rw[hnl,cond_false]at h
 rw[cond_false]
 rw[zHb (L:=L) (L':=L') hρ hL]
 split
 ·rename_i e
  rw[e]at h
  rw[zm8 hρ hd hL]; exact h
 ·rename_i n r e
  rw[e]at h
  simp only at h
  generalize n :: r=ns at h
  obtain ⟨o1,h1,h⟩:=Option.bind_eq_some_iff.1 h
  split at h
  ·rename_i hok
   cases h
   have hns:∀ n ∈ ns,L' n=L n:=fun n hn=>hw n (by simp[Out.writes,zdC,fzC,hn])
   have hup:∀ p ∈ o1.upd,L' p.1=L p.1:=fun p hp=>hw p.1 (by simp only[Out.writes,List.mem_append]; exact .inl (List.mem_map.2 ⟨p,hp,rfl⟩))
   refine Option.bind_eq_some_iff.2 ⟨o1,?_,?_⟩
   ·rw[←h1]
    refine zm8 (L:=cutL ns L) (L':=cutL ns L') (fun x hx=>?_) ?_ (fun x hx n hn=>?_)
    ·rw[hρ x hx]; exact zAg (hL x hx)
    ·unfold cutL; rw[hd]
    ·unfold cutL; rw[hL x hx n (zzh n hn)]
   ·have hok':fzOK L' ns o1=true:=by
     unfold fzOK at hok ⊢
     simp only[Bool.and_eq_true,List.all_eq_true]at hok ⊢
     exact ⟨⟨fun n hn=>by rw[hns n hn]; exact hok.1.1 n hn,fun p hp=>by rw[hup p hp]; exact hok.1.2 p hp⟩,hok.2⟩
    rw[if_pos hok']
  ·cases h
theorem zB5 (P:Program) (t:TypeId):(zB0 P t).names=[]:=by
 rcases ztn P t with ⟨k,h⟩ | ⟨s,h⟩ | h<;>rw[h]<;>rfl
theorem zpH {P:Program} {ρ:Operand→A}:∀ {xs:List Operand} {ts:List TypeId} {y:A},y ∈ znM P ρ xs ts→(∃ x ∈ xs,y=ρ x)∨y.names=[]
 | [],_,y,h=>by cases h
 | x :: xs,[],y,h=>by
  rcases List.mem_cons.1 h with h | h
  ·exact .inl ⟨x,by simp,h⟩
  ·exact (zpH h).imp (fun ⟨z,hz,e⟩=>⟨z,by simp[hz],e⟩) id
 | x :: xs,t :: ts,y,h=>by
  rcases List.mem_cons.1 h with h | h
  ·cases hn:zcd x with
   | true=>rw[hn]at h; subst h; exact .inr (zB5 P t)
   | false=>rw[hn]at h; exact .inl ⟨x,by simp,h⟩
  ·exact (zpH h).imp (fun ⟨z,hz,e⟩=>⟨z,by simp[hz],e⟩) id
theorem zop {n:Nat}:∀ {l ns:List Nat},n ∈ addN ns l↔n ∈ ns∨n ∈ l
 | [],ns=>by simp[addN]
 | m :: r,ns=>by
  unfold addN
  cases hq:memN m ns with
  | true =>
   simp only[cond_true]
   rw[zop,List.mem_cons]
   constructor
   ·rintro (h | h)
    ·exact .inl h
    ·exact .inr (.inr h)
   ·rintro (h | h | h)
    ·exact .inl h
    ·subst h; exact .inl (zbU.1 hq)
    ·exact .inr h
  | false =>
   simp only[cond_false]
   rw[zop]
   simp[or_assoc]
theorem zp0 {ns:List Nat} (h:∀ n ∈ ns,L' n=L n):zvm L' ns=zvm L ns:=by
 unfold zvm
 have:ns.flatMap (zC8 L')=ns.flatMap (zC8 L):=by
  induction ns with
  | nil=>rfl
  | cons n r ih =>
   rw[List.flatMap_cons,List.flatMap_cons,ih fun m hm=>h m (by simp[hm])]
   unfold zC8
   rw[h n (by simp)]
 rw[this]
theorem zp5 {f:Nat→Nat}:∀ {l:List Nat},(∀ n ∈ l,L' n=L n)→zgb f L' l=zgb f L l
 | [],_=>rfl
 | n :: r,h=>by
  unfold zgb
  rw[h n (by simp),zp5 fun m hm=>h m (by simp[hm])]
theorem zBq {rn:List Nat} (h:∀ n ∈ rn,L' n=L n):zjg rn L'=zjg rn L:=by
 funext n
 unfold zjg
 cases hq:memN n rn with
 | false=>rfl
 | true=>exact h n (zbU.1 hq)
theorem zlt {ns rn:List Nat} (h:zjg rn L'=zjg rn L):∀ (ms:List Bool) (xs:List A),mixA ns rn L' ms xs=mixA ns rn L ms xs
 | [],[]=>rfl
 | _ :: _,[]=>rfl
 | true :: ms,x :: xs=>by simp only[mixA]; rw[zlt h ms xs]
 | false :: ms,x :: xs=>by simp only[mixA]; rw[zlt h ms xs,h]
 | [],x :: xs=>by simp only[mixA]; rw[zlt h [] xs,h]
theorem zp9 {ns:List Nat} (h:∀ n ∈ ns,L' n=L n):zig L' ns=zig L ns:=by
 unfold zig
 induction ns with
 | nil=>rfl
 | cons n r ih =>
  rw[List.all_cons,List.all_cons,h n (by simp)]
  have:∀ (q:List Nat),True:=fun _=>trivial
  congr 1
  clear this
  have gen:∀ (is:Bool→Nat→List PE→Bool) (l:List Nat),(∀ m ∈ l,L' m=L m)→(l.all fun n=>match L' n with | some b=>b.all is | none=>false)=l.all fun n=>match L n with | some b=>b.all is | none=>false:=by
   intro is l
   induction l with
   | nil=>intro _; rfl
   | cons m l ih=>intro hl; rw[List.all_cons,List.all_cons,hl m (by simp),ih fun q hq=>hl q (by simp[hq])]
  exact gen _ r fun m hm=>h m (by simp[hm])
theorem zAs {bl:List (Nat × Blk)} {x y:A} (h:∀ n ∈ x.names,L' n=L n):zhy L' bl x y=zhy L bl x y:=by
 cases x with
 | o n=>cases y<;>simp only[zhy]; rw[h n (by simp[A.names])]
 | p n π=>cases y<;>simp only[zhy]; rw[h n (by simp[A.names])]
 | _=>rfl
theorem zi0 {r:CallOut}:∀ (i:Nat) (ms:List Bool) (xs:List A),(∀ x ∈ zpQ ms xs,∀ n ∈ x.names,L' n=L n)→za0 L' r i ms xs=za0 L r i ms xs
 | i,true :: ms,x :: xs,h=>by
  unfold za0
  rw[zi0 (i+1) ms xs fun y hy=>h y (by simp[zpQ,hy])]
  cases lk r.roots i with
  | none=>rfl
  | some y =>
   simp only[Option.bind_some]
   rw[zAs (h x (by simp[zpQ]))]
 | i,false :: ms,x :: xs,h=>by
  unfold za0
  rw[zi0 (i+1) ms xs fun y hy=>h y (by simpa [zpQ] using hy)]
 | _,[],_,_=>by simp[za0]
 | _,true :: _,[],_=>by simp[za0]
 | _,false :: _,[],_=>by simp[za0]
theorem znV {x:A}:∀ {ms:List Bool} {xs:List A},x ∈ zpQ ms xs→x ∈ xs
 | true :: ms,y :: xs,h=>by
  rcases List.mem_cons.1 h with h | h
  ·simp[h]
  ·simp[znV h]
 | false :: ms,y :: xs,h=>by simp[znV (ms:=ms) (xs:=xs) h]
 | [],_,h=>by simp[zpQ]at h
 | true :: _,[],h=>by simp[zpQ]at h
 | false :: _,[],h=>by simp[zpQ]at h
theorem zs9 {x:A}:∀ {ms:List Bool} {xs:List A},x ∈ zBV ms xs→x ∈ xs
 | true :: ms,y :: xs,h=>by simp[zs9 (ms:=ms) (xs:=xs) h]
 | false :: ms,y :: xs,h=>by
  rcases List.mem_cons.1 h with h | h
  ·simp[h]
  ·simp[zs9 h]
 | [],xs,h=>by simpa [zBV] using h
 | true :: _,[],h=>by simp[zBV]at h
 | false :: _,[],h=>by simp[zBV]at h
theorem zFT {rm:List (Nat × Nat)} {n:Nat}:(zon L rm n).1=n:=by
 unfold zon
 cases memN n (rm.map (·.2))<;>rfl
theorem zws {d:Nat} {ms:List Bool} {cs:List A→List (Nat × Blk)→Option CallOut} {xs:List A} {out:Out} (h:zh2 L d ms cs xs=some out) (hL:∀ x ∈ xs,Same L L' x.names) (hw:∀ n ∈ out.writes,L' n=L n) :
  zh2 L' d ms cs xs=some out:=by
 have base:∀ n ∈ addN [] ((zpQ ms xs).flatMap A.names),L' n=L n:=by
  intro n hn
  rw[zop]at hn
  rcases hn with hn | hn
  ·cases hn
  ·obtain ⟨x,hx,hn⟩:=List.mem_flatMap.1 hn
   exact hL x (znV hx) n hn
 have hrn:∀ n ∈ zxh ms xs,L' n=L n:=by
  intro n hn
  unfold zxh at hn
  rw[zop]at hn
  rcases hn with hn | hn
  ·cases hn
  ·obtain ⟨x,hx,hn⟩:=List.mem_flatMap.1 hn
   exact hL x (zs9 hx) n hn
 unfold zh2 at h
 split at h
 ·rename_i hc
  obtain ⟨ys,hys,h⟩:=Option.bind_eq_some_iff.1 h
  obtain ⟨r,hr,h⟩:=Option.bind_eq_some_iff.1 h
  have hns:∀ n ∈ zjh L ms xs,L' n=L n:=by
   intro n hn
   refine hw n ?_
   unfold zvq at h
   split at h
   ·cases h
    simp only[Out.writes,zdC,List.mem_append,List.map_map]
    refine .inr (List.mem_map.2 ⟨n,hn,?_⟩)
    exact zFT
   ·cases h
  have hN:zjh L' ms xs=zjh L ms xs:=by
   unfold zjh at hns ⊢
   rw[zp0 base]
   exact zp0 fun n hn=>hns n (by unfold zvm; rw[zop]; exact .inl hn)
  unfold zh2
  rw[hN,zp9 hns,zp9 hrn,zlt (zBq hrn),zp5 hns,if_pos hc,hys,Option.bind_some,hr,Option.bind_some]
  have hH:∀ x ∈ zpQ ms xs,∀ n ∈ x.names,L' n=L n:=fun x hx n hn=>hL x (znV hx) n hn
  unfold zvq at h ⊢
  rw[zi0 0 ms xs hH]
  split at h
  ·rename_i hb
   cases h
   have hcut:(zjh L ms xs).map (zon L' (za0 L r 0 ms xs))=(zjh L ms xs).map (zon L (za0 L r 0 ms xs)):=by
    refine List.map_congr_left fun n hn=>?_
    unfold zon
    rw[hns n hn]
   have hfr:(r.blks.all fun p=>(lk (za0 L r 0 ms xs) p.1).isSome || (L' (imp d p.1)).isNone)=r.blks.all fun p=>(lk (za0 L r 0 ms xs) p.1).isSome || (L (imp d p.1)).isNone:=by
    have hup:∀ p ∈ r.blks,lk (za0 L r 0 ms xs) p.1=none→L' (imp d p.1)=L (imp d p.1):=by
     intro p hp hq
     refine hw _ ?_
     simp only[Out.writes,List.mem_append,List.map_map]
     have hp':∃ b,(p.1,b) ∈ fixB L (za0 L r 0 ms xs) r.blks:=⟨_,List.mem_map.2 ⟨p,hp,rfl⟩⟩
     obtain ⟨b,hp'⟩:=hp'
     refine .inl (List.mem_map.2 ⟨(p.1,b),hp',?_⟩)
     simp only[Function.comp_apply,gMap,hq]
    have gen:∀ (l:List (Nat × Blk)),(∀ p ∈ l,lk (za0 L r 0 ms xs) p.1=none→L' (imp d p.1)=L (imp d p.1)) →
      (l.all fun p=>(lk (za0 L r 0 ms xs) p.1).isSome || (L' (imp d p.1)).isNone)=l.all fun p=>(lk (za0 L r 0 ms xs) p.1).isSome || (L (imp d p.1)).isNone:=by
     intro l
     induction l with
     | nil=>intro _; rfl
     | cons p l ih =>
      intro hl
      rw[List.all_cons,List.all_cons,ih fun q hq=>hl q (by simp[hq])]
      cases hq:lk (za0 L r 0 ms xs) p.1 with
      | some _=>simp
      | none=>rw[hl p (by simp) hq]
    exact gen _ hup
   have hfx:fixB L' (za0 L r 0 ms xs) r.blks=fixB L (za0 L r 0 ms xs) r.blks:=by
    unfold fixB
    refine List.map_congr_left fun p _=>?_
    cases hq:lk (za0 L r 0 ms xs) p.1 with
    | none=>rfl
    | some n =>
     have hb':=hb
     simp only[Bool.and_eq_true,List.all_eq_true]at hb'
     have:=hb'.1.2 _ (zcn hq)
     simp only
     rw[hns n (zbU.1 this)]
   rw[hfr,hcut,hfx,if_pos hb]
  ·cases h
 ·cases h
theorem zoz {d:Nat} {cs:List A→Option CallOut} {xs:List A} {out:Out} (h:zho L d cs xs=some out) (hsm:∀ x ∈ xs,Same L L' x.names) (hw:∀ n ∈ out.writes,L' n=L n):zho L' d cs xs=some out:=by
 unfold zho at h ⊢
 rw[zqw (L:=L) (L':=L') hsm]
 simp only[Option.bind_eq_some_iff]at h ⊢
 obtain ⟨ys,hys,r,hr,ho⟩:=h
 refine ⟨ys,hys,r,hr,?_⟩
 unfold zvN at ho ⊢
 split at ho
 ·rename_i hc
  cases ho
  simp only[Bool.and_eq_true,List.all_eq_true,Option.isNone_iff_eq_none]at hc
  rw[if_pos]
  simp only[Bool.and_eq_true,List.all_eq_true,Option.isNone_iff_eq_none]
  refine ⟨hc.1,fun p hp=>?_⟩
  rw[hw (imp d p.1) (by simp only[Out.writes,zcs,List.map_map,zdC,List.map_nil,List.append_nil,List.mem_map]; exact ⟨p,hp,rfl⟩)]
  exact hc.2 p hp
 ·cases ho
theorem zEk {ns:List Nat} {o1:Out} (hok:fzOK L ns o1=true) (hw:∀ n ∈ ({ val:=o1.val,upd:=o1.upd,cut:=fzC ns++o1.cut }:Out).writes,L' n=L n):fzOK L' ns o1=true∧∀ n ∈ ns,L' n=L n:=by
 have hns:∀ n ∈ ns,L' n=L n:=fun n hn=>hw n (by simp[Out.writes,zdC,fzC,hn])
 have hup:∀ p ∈ o1.upd,L' p.1=L p.1:=fun p hp=>hw p.1 (by simp only[Out.writes,List.mem_append]; exact .inl (List.mem_map.2 ⟨p,hp,rfl⟩))
 refine ⟨?_,hns⟩
 unfold fzOK at hok ⊢
 simp only[Bool.and_eq_true,List.all_eq_true]at hok ⊢
 exact ⟨⟨fun n hn=>by rw[hns n hn]; exact hok.1.1 n hn,fun p hp=>by rw[hup p hp]; exact hok.1.2 p hp⟩,hok.2⟩
theorem zx7 {d:Nat} {cs:List A→Option CallOut} {xs:List A} {out:Out} (h:zi6 L d cs xs=some out) (hsm:∀ x ∈ xs,Same L L' x.names) (hw:∀ n ∈ out.writes,L' n=L n):zi6 L' d cs xs=some out:=by
 have hx:∀ n ∈ A.namesL xs,L' n=L n:=fun n hn=>by
  obtain ⟨x,h1,h2⟩:=zpM hn
  exact hsm x h1 n h2
 unfold zi6 at h ⊢
 rw[zfD hx]
 generalize zbO L xs=ns at h
 obtain ⟨o1,h1,h⟩:=Option.bind_eq_some_iff.1 h
 split at h
 ·rename_i hok
  cases h
  obtain ⟨hok',hns⟩:=zEk hok hw
  refine Option.bind_eq_some_iff.2 ⟨o1,?_,?_⟩
  ·rw[zrP hx]
   refine zoz h1 (fun x hx' n hn=>?_) (fun n hn=>?_)
   ·have:n ∈ A.namesL (fzL L ns xs):=by
     clear h1 hok hok' hsm
     generalize fzL L ns xs=ys at hx'
     induction ys with
     | nil=>cases hx'
     | cons y ys ih =>
      simp only[A.namesL,List.mem_append]
      rcases List.mem_cons.1 hx' with rfl | hx'
      ·exact .inl hn
      ·exact .inr (ih hx')
    unfold cutL
    rw[hx n (zs1 n this)]
   ·unfold cutL
    rw[hw n (by simp only[Out.writes,List.mem_append,zdC,List.map_append]at hn ⊢; exact hn.imp id .inr)]
  ·rw[if_pos hok']
 ·cases h
theorem zz5 {n:Nat} {x:A}:∀ {xs:List A},x ∈ xs→n ∈ x.names→n ∈ A.namesL xs
 | y :: ys,hx,hn=>by
  simp only[A.namesL,List.mem_append]
  rcases List.mem_cons.1 hx with rfl | hx
  ·exact .inl hn
  ·exact .inr (zz5 hx hn)
theorem zAP {C:Cfg} {ρ ρ':Operand→A} {d:Nat} {o:Oper} {out:Out} (h:znP C L d ρ o=some out) (hρ:∀ x ∈ o.op.operands,ρ' x=ρ x) (hd:L' d=L d) (hL:∀ x ∈ o.op.operands,Same L L' (ρ x).names)
  (hw:∀ n ∈ out.writes,L' n=L n):znP C L' d ρ' o=some out:=by
 unfold znP at h ⊢
 split
 ·rename_i c hop
  rw[hop]at h
  simp only at h
  split
  ·rename_i b hb
   rw[hb]at h
   simp only at h
   exact zqb h hρ hd hL hw
  ·rename_i hnb
   have h:((zgG ρ c).bind fun g=>bif exB C.P g then zx3 (extK C.P g) (zbb C.P ρ c)else bif(C.sig g).isEmpty then zho L d (fun ys=>C.cs g ys []) (zbb C.P ρ c)
   else bif anyT (C.sig g)then zh2 L d (C.sig g) (C.cs g) (zbb C.P ρ c)
   else zi6 L d (fun ys=>C.cs g ys []) (zbb C.P ρ c))=some out:=by
    split at h
    ·rename_i b hb; exact (hnb b hb).elim
    ·exact h
   simp only[hop,Op.operands,Call.operands]at hρ hL
   have hcap:ztI ρ' c=ztI ρ c:=by
    unfold ztI
    split
    ·rename_i f hf
     rw[hρ f (by simp[hf])]
    ·rfl
   have hm:zbb C.P ρ' c=zbb C.P ρ c:=by
    unfold zbb
    rw[hcap,zkA fun x hx=>hρ x (by simp only[Array.mem_append]; right; simpa using hx)]
   have hcl:zgG ρ' c=zgG ρ c:=by
    unfold zgG
    split
    ·rename_i f hf
     rw[hρ f (by simp[hf])]
    ·rfl
   have hsm:∀ x ∈ zbb C.P ρ c,Same L L' x.names:=fun x hx=>by
    unfold zbb at hx
    rcases List.mem_append.1 hx with hx | hx
    ·rcases zpH hx with ⟨z,hz,rfl⟩ | hx
     ·exact hL z (by simp only[Array.mem_append]; right; simpa using hz)
     ·rw[hx]; exact fun n hn=>by cases hn
    ·unfold ztI at hx
     split at hx
     ·rename_i f hf
      have hLf:=hL f (by simp[hf])
      split at hx
      ·rename_i g cs hfv
       rw[hfv]at hLf
       exact fun n hn=>hLf n (by simp only[A.names]; exact zz5 hx hn)
      ·cases hx
     ·cases hx
   rw[hm,hcl]
   obtain ⟨g,hg,h⟩:=Option.bind_eq_some_iff.1 h
   refine Option.bind_eq_some_iff.2 ⟨g,hg,?_⟩
   cases hex:exB C.P g with
   | true=>rw[hex]at h; exact h
   | false =>
   rw[hex,cond_false]at h
   rw[cond_false]
   cases hsig:(C.sig g).isEmpty with
   | false =>
    rw[hsig]at h
    simp only[cond_false]at h ⊢
    cases hany:anyT (C.sig g) with
    | true =>
     rw[hany]at h
     exact zws h hsm hw
    | false =>
     rw[hany]at h
     exact zx7 h hsm hw
   | true =>
    rw[hsig]at h
    exact zoz h hsm hw
 ·rename_i hnc
  split at h
  ·rename_i c hop; exact (hnc c hop).elim
  ·exact zqb h hρ hd hL hw
theorem zFe {ρ ρ':Operand→A} {d:Nat} {o:Oper} {out:Out} (h:opMv P L d ρ o=some out) (hρ:∀ x ∈ o.op.operands,ρ' x=ρ x) (hL:∀ x ∈ o.op.operands,Same L L' (ρ x).names)
  (hw:∀ n ∈ out.writes,L' n=L n):opMv P L' d ρ' o=some out:=by
 unfold opMv at h ⊢
 split at h
 ·rename_i t hop
  unfold zlI at h ⊢
  obtain ⟨z,hz,h⟩:=Option.bind_eq_some_iff.1 h
  obtain ⟨rc,hrc,h⟩:=Option.bind_eq_some_iff.1 h
  rw[hz,Option.bind_some,hrc,Option.bind_some]
  split at h
  ·rename_i h1 h2
   cases h
   have e1:=hw d (by simp[Out.writes])
   have e2:=hw (imp d 0) (by simp[Out.writes])
   rw[e1,e2,h1,h2]
  ·cases h
 ·rename_i t x hop
  rw[hop]at hρ hL
  have hx:x ∈ (Op.load t x).operands:=by simp[Op.operands]
  rw[hρ x hx]
  have hL:=hL x hx
  unfold zye at h ⊢
  split at h
  ·rename_i n π hx
   rw[hx]at hL
   rw[hL n (by simp[A.names])]
   exact h
  ·cases h
 ·rename_i t ps hop
  rw[hop]at hρ
  have hm:(ps.toList.map fun p=>(p.1,ρ' p.2))=ps.toList.map fun p=>(p.1,ρ p.2):=List.map_congr_left fun p hp=>by
   rw[hρ p.2 (by simp only[Op.operands]; simp; exact ⟨p.1,by simpa using hp⟩)]
  rw[hm]
  unfold zlT at h ⊢
  split at h
  ·obtain ⟨pl,hpl,h⟩:=Option.bind_eq_some_iff.1 h
   obtain ⟨y,hy,h⟩:=Option.bind_eq_some_iff.1 h
   rename_i zs fs hz hu
   simp only[hz,hu,hpl,Option.bind_some,hy]
   split at h
   ·rename_i hfree
    cases h
    rw[if_pos]
    rw[List.all_eq_true]at hfree ⊢
    intro p hp
    rw[hw p.1 (by simp only[Out.writes,List.mem_append]; exact .inl (List.mem_map_of_mem hp))]
    exact hfree p hp
   ·cases h
  ·cases h
 ·cases h
theorem zg2 {x:A} (h:Same L L' x.names):zoD L' x=zoD L x:=by
 cases x with
 | o n=>simp only[zoD]; rw[h n (by simp[A.names])]
 | _=>rfl
theorem ztZ {t:TypeId} {x i:A} {ok:Bool} (h:Same L L' x.names):zjJ P L' t x i ok=zjJ P L t x i ok:=by unfold zjJ; rw[zg2 h]
theorem ziw {t:TypeId} {x i v:A} (h:Same L L' x.names):zdf P L' t x i v=zdf P L t x i v:=by unfold zdf; rw[zg2 h]
theorem zl0 {t:TypeId} {x:A} {b:Bool} (h:Same L L' x.names):ziP P L' t x b=ziP P L t x b:=by
 have e:=zg2 (L:=L) (L':=L') h
 unfold ziP
 split
 ·cases x with
  | pv z=>cases z<;>rfl
  | o n=>simp only; rw[e]
  | _=>rfl
 ·rfl
theorem zw2 {ts:List TypeId} {xs:List A} (h:∀ x ∈ xs,Same L L' x.names):zo2 P L' ts xs=zo2 P L ts xs:=by
 unfold zo2
 split
 ·rename_i t x
  rw[zg2 (h x (by simp))]
 ·rfl
theorem zuK {ts:List TypeId} {xs:List A} (h:∀ x ∈ xs,Same L L' x.names):ziJ P L' ts xs=ziJ P L ts xs:=by
 unfold ziJ
 split
 ·rename_i t r x q
  rw[zg2 (h x (by simp))]
 ·rfl
theorem zCc {ρ ρ':Operand→A} {d:Nat} {o:Oper} {out:Out} (h:zos P L d ρ o=some out) (hρ:∀ x ∈ o.op.operands,ρ' x=ρ x) (hd:L' d=L d) (hL:∀ x ∈ o.op.operands,Same L L' (ρ x).names) (hw:∀ n ∈ out.writes,L' n=L n):zos P L' d ρ' o=some out:=by
 unfold zos at h ⊢
 split at h
 ·unfold znD at h ⊢
  rw[zdK hd]; exact h
 ·rename_i t x i ok hop
  rw[hop]at hρ hL
  rw[hρ x (by simp[Op.operands]),hρ i (by simp[Op.operands]),ztZ (hL x (by simp[Op.operands]))]
  exact h
 ·rename_i t m q v hop
  rw[hop]at hρ hL
  rw[hρ m (by simp[Op.operands]),hρ q (by simp[Op.operands]),hρ v (by simp[Op.operands]),ziw (hL m (by simp[Op.operands]))]
  exact h
 ·rename_i t m q v hop
  rw[hop]at hρ hL
  rw[hρ m (by simp[Op.operands]),hρ q (by simp[Op.operands]),hρ v (by simp[Op.operands]),ziw (hL m (by simp[Op.operands]))]
  exact h
 ·rename_i t x y z hop
  rw[hop]at hρ hL
  rw[hρ x (by simp[Op.operands]),zl0 (hL x (by simp[Op.operands]))]
  exact h
 ·rename_i t x y z hop
  rw[hop]at hρ hL
  rw[hρ x (by simp[Op.operands]),zl0 (hL x (by simp[Op.operands]))]
  exact h
 ·rename_i t x y hop
  rw[hop]at hρ hL
  rw[hρ x (by simp[Op.operands])]
  split at h
  ·rename_i hn
   rw[if_pos hn]
   unfold zlC at h ⊢
   split at h
   ·rename_i n j hx
    have hLn:L' n=L n:=hL x (by simp[Op.operands]) n (by rw[hx]; simp[A.names])
    obtain ⟨b,hb,h⟩:=Option.bind_eq_some_iff.1 h
    obtain ⟨rc,hrc,h⟩:=Option.bind_eq_some_iff.1 h
    simp only[hLn,hb,hrc,Option.bind_some]
    split at h
    ·rename_i hc
     obtain ⟨b',hb',e⟩:=Option.map_eq_some_iff.1 h
     subst e
     have hw2:=hw (imp n (j+1)) (by simp[Out.writes])
     rw[hw2,if_pos hc,hb']
     rfl
    ·cases h
   ·cases h
  ·cases h
 ·rename_i c hop
  rw[hop]at hρ hL
  split at h
  ·rename_i hc
   have hm:c.args.toList.map ρ'=c.args.toList.map ρ:=List.map_congr_left fun x hx=>hρ x (by simp only[Op.operands,Call.operands,Array.mem_append]; right; simpa using hx)
   rw[hm,zw2 (L:=L)]
   ·exact h
   ·intro x hx
    obtain ⟨z,hz,rfl⟩:=List.mem_map.1 hx
    exact hL z (by simp only[Op.operands,Call.operands,Array.mem_append]; right; simpa using hz)
  ·rename_i hc
   have hm:c.args.toList.map ρ'=c.args.toList.map ρ:=List.map_congr_left fun x hx=>hρ x (by simp only[Op.operands,Call.operands,Array.mem_append]; right; simpa using hx)
   rw[hm,zuK (L:=L)]
   ·exact h
   ·intro x hx
    obtain ⟨z,hz,rfl⟩:=List.mem_map.1 hx
    exact hL z (by simp only[Op.operands,Call.operands,Array.mem_append]; right; simpa using hz)
  ·cases h
 ·cases h
theorem zES {ρ ρ':Operand→A} {mj:Nat × Nat} {d:Nat} {o:Oper} {out:Out} (h:opAp P L mj d ρ o=some out) (hρ:∀ x ∈ o.op.operands,ρ' x=ρ x) (hd:L' d=L d) (hL:∀ x ∈ o.op.operands,Same L L' (ρ x).names)
  (hw:∀ n ∈ out.writes,L' n=L n):opAp P L' mj d ρ' o=some out:=by
 unfold opAp at h ⊢
 split at h
 ·rename_i c hop
  rw[hop]at hρ hL
  split at h
  ·rename_i x y t t1 hc hargs htys
   have hx:x ∈ (Op.call c).operands:=by
    simp only[Op.operands,Call.operands,Array.mem_append]
    right
    have:x ∈ c.args.toList:=by rw[hargs]; simp
    simpa using this
   have hy:y ∈ (Op.call c).operands:=by
    simp only[Op.operands,Call.operands,Array.mem_append]
    right
    have:y ∈ c.args.toList:=by rw[hargs]; simp
    simpa using this
   obtain ⟨b,hb,h⟩:=Option.bind_eq_some_iff.1 h
   obtain ⟨b',hs,h⟩:=Option.bind_eq_some_iff.1 h
   split at h
   ·rename_i hh
    obtain ⟨out0,ha,rfl⟩:=Option.map_eq_some_iff.1 h
    have em:L' mj.1=L mj.1:=hw mj.1 (by simp[Out.writes,zwv])
    have eu:∀ n,L' n=L n→upd L' mj.1 (some b') n=upd L mj.1 (some b') n:=fun n hn=>by
     simp only[upd]
     split
     ·rfl
     ·exact hn
    rw[hρ x hx,hρ y hy]
    simp only[em,hb,Option.bind_some,hs,if_pos hh]
    have e:=zmk (P:=P) (L:=upd L mj.1 (some b')) (L':=upd L' mj.1 (some b')) (d:=d) (t:=t) (t1:=t1) (nilc:=zcd x) (x:=ρ x) (y:=ρ y) (eu d hd) (fun n hn=>eu n (hL x hx n hn)) (fun n hn=>eu n (hL y hy n hn))
    rw[e,ha]
    rfl
   ·cases h
  ·cases h
 ·cases h
theorem zCX {C:Cfg} {ρ ρ':Operand→A} {d:Nat} {o:Oper} {out:Out} (h:zsK C L d ρ o=some out) (hρ:∀ x ∈ o.op.operands,ρ' x=ρ x) (hd:L' d=L d) (hL:∀ x ∈ o.op.operands,Same L L' (ρ x).names)
  (hw:∀ n ∈ out.writes,L' n=L n):zsK C L' d ρ' o=some out:=by
 unfold zsK at h ⊢
 cases hmv:memN d C.mv with
 | true=>rw[hmv,cond_true]at h; exact zFe h hρ hL hw
 | false =>
  rw[hmv,cond_false]at h
  rw[cond_false]
  cases hap:zvX C.mv d with
  | some mj =>
   rw[hap]at h
   simp only at h ⊢
   exact zES h hρ hd hL hw
  | none =>
  rw[hap]at h
  simp only at h ⊢
  cases hmp:mapB o with
  | true=>rw[hmp,cond_true]at h; exact zCc h hρ hd hL hw
  | false=>rw[hmp,cond_false]at h; exact zAP h hρ hd hL hw
end
end Go.Proofs.YtnolgfdjcipmmaaDoor.M
namespace Go.Proofs.YtnolgfdjcipmmaaDoor.M
open Go
def act (C:Cfg) (ops:Array Oper) (e:Nat→A) (L:Nat→Option Blk) (o:Oper):Option Out :=
 (zg3 ops e o).bind fun b=>bif b then zsK C L (o.dst.getD 0) (ziF C.G e) o else some { val:=.und }
def Hall (out:Out) (L:Nat→Option Blk):Prop:=∀ m b,out.mem L m=some b→b.all (zar out.cut)=true
def FAct (C:Cfg) (ops:Array Oper) (o:Oper) (e:Nat→A) (L:Nat→Option Blk) (out:Out) (e':Nat→A) (L':Nat→Option Blk):Prop :=
 act C ops e L o=some out∧zJJ C o∧Hall out L∧e'=putF (fun t=>zep out.cut (e t)) o.dst out.val∧L'=out.mem L
theorem zAi (x:A):zep [] x=x:=by unfold zep; rw[show x.all (zar [])=true from A.all_true _]; rfl
theorem FAct.step {C:Cfg} {ops:Array Oper} {i:Nat} {o:Oper} {e e':Nat→A} {L L':Nat→Option Blk} {out:Out} (hi:ops[i]?=some o) (h:FAct C ops o e L out e' L'):FStep C ops i e L e' L':=by
 obtain ⟨h1,h2,h3,h4,h5⟩:=h
 simp only[act,Option.bind_eq_some_iff]at h1
 obtain ⟨b,hb,h1⟩:=h1
 refine ⟨o,b,hi,hb,h2,fun ht=>?_,fun hf=>?_⟩
 ·subst ht
  exact ⟨out,h1,h3,h4,h5⟩
 ·subst hf
  simp only[cond_false,Option.some.injEq]at h1
  subst h1
  refine ⟨?_,by rw[h5,zBs]⟩
  rw[h4]
  congr 1
  funext t
  exact zAi _
structure Ent where
 d:Option Nat
 R:List Nat
 N:List Nat
 W:List Nat
 V:List A:=[]
 X:List (Nat × Option (List PE)):=[]
def zp1 (o:Oper):Bool:=match o.op with
 | .move (.tmp _)=>true
 | _=>false
structure Told (ops:Array Oper) (o:Oper) (e:Nat→A) (L:Nat→Option Blk) (out:Out) (a:Ent):Prop where
 d:a.d=o.dst
 r:∀ t ∈ o.looksAt ops,t ∈ a.R∧e t≠.bad∧((∀ n ∈ (e t).names,n ∈ a.N)∨e t ∈ a.V)
 v:(∀ n ∈ out.val.names,n ∈ a.N)∨out.val ∈ a.V
 m:zp1 o=true∨∀ t ∈ o.looksAt ops,∀ n ∈ (e t).names,n ∈ a.N
 x:a.X=out.cut
 u:∀ m b,lk out.upd m=some b→∀ n ∈ b.names,n ∈ a.N
 w:∀ n ∈ out.writes,n ∈ a.W
 wn:∀ n ∈ a.W,n ∈ a.N
 old:∀ m ∈ a.W,∀ b,L m=some b→∀ n ∈ b.names,n ∈ a.N
 dn:o.dst.getD 0 ∈ a.N
structure Indep (a b:Ent):Prop where
 dr:∀ d,a.d=some d→d ∉ b.R∧b.d≠some d
 rd:∀ d,b.d=some d→d ∉ a.R
 wn:∀ n ∈ a.W,n ∉ b.N
 nw:∀ n ∈ b.W,n ∉ a.N
 vx:∀ x ∈ a.V,x.all (zar b.X)=true
 xv:∀ x ∈ b.V,x.all (zar a.X)=true
section
variable {C:Cfg} {ops:Array Oper} {L L':Nat→Option Blk} {e e':Nat→A}
theorem zhl {o:Out} {m:Nat} {b:Blk}:o.mem L m=some b↔za5 o.cut m=false∧(lk o.upd m=some b∨lk o.upd m=none∧L m=some b):=by
 unfold Out.mem
 cases za5 o.cut m with
 | true=>simp
 | false =>
  simp only[Bool.false_eq_true,if_false,true_and]
  cases lk o.upd m<;>simp
theorem zu9 {α:Type}:∀ {l:List (Nat × α)} {n:Nat},n ∉ l.map (·.1)→lk l n=none
 | [],_,_=>rfl
 | (m,x) :: l,n,h=>by
  rw[zaD,if_neg (fun e=>h (by simp[e])),zu9 (fun q=>h (by simp at q ⊢; exact .inr q))]
theorem zAX {c:List (Nat × Option (List PE))} {n:Nat} (h:n ∉ zdC c):za5 c n=false:=by
 unfold za5
 rw[List.any_eq_false]
 intro x hx
 have hne:n≠x.1:=fun q=>h (by rw[q]; exact List.mem_map_of_mem hx)
 obtain ⟨a,b⟩:=x
 cases b with
 | none =>
  simp only
  intro hq
  exact hne (nbeq.1 hq)
 | some π=>simp
theorem zjE {o:Out} {n:Nat} (h:n ∉ o.writes):o.mem L n=L n:=by
 have h1:lk o.upd n=none:=zu9 fun q=>h (List.mem_append_left _ q)
 have h2:za5 o.cut n=false:=zAX fun q=>h (List.mem_append_right _ q)
 unfold Out.mem
 rw[h1,h2]; rfl
theorem zym (v:Value):(zsr v).names=[]:=by
 unfold zsr
 split<;>first | rfl | (split<;>rfl)
theorem zB1 {G:Nat→Option PV} (x:Operand) (h:∀ t,x≠.tmp t):(ziF G e x).names=[]:=by
 cases x with
 | tmp t=>exact absurd rfl (h t)
 | const v=>exact zym v
 | global g=>simp only[ziF]; split<;>rfl
 | func f=>rfl
theorem zDQ {o:Oper} {t:Nat} (h:Operand.tmp t ∈ o.op.operands):t ∈ o.looksAt ops:=by
 unfold Oper.looksAt
 refine List.mem_append_left _ (List.mem_filterMap.2 ⟨.tmp t,by simpa using h,rfl⟩)
theorem zAW {o:Oper} (h:∀ t ∈ o.looksAt ops,e' t=e t):zg3 ops e' o=zg3 ops e o:=by
 unfold zg3
 split
 ·rfl
 ·rename_i j want hg
  split
  ·rfl
  ·rename_i g hj
   rw[h g (List.mem_append_right _ (by rw[hg]; simp[hj]))]
theorem zD6 {C:Cfg} {ρ ρ':Operand→A} {d:Nat} {o:Oper} {out:Out} (hp:zp1 o=true) (h:zsK C L d ρ o=some out) (hρ:∀ x ∈ o.op.operands,ρ' x=ρ x):zsK C L' d ρ' o=some out:=by
 unfold zp1 at hp
 split at hp
 ·rename_i t ht
  have hx:ρ' (.tmp t)=ρ (.tmp t):=hρ _ (by rw[ht]; simp[Op.operands])
  unfold zsK opMv opAp mapB znP zjW siB nilN at h ⊢
  simp only[ht,fzN,zbt,zcd,Bool.false_and,cond_false]at h ⊢
  rw[hx]
  exact h
 ·cases hp
theorem zz0 {o:Oper} {out:Out} {a:Ent} (h:act C ops e L o=some out) (T:Told ops o e L out a) (he:∀ t ∈ o.looksAt ops,e' t=e t) (hL:∀ n ∈ a.N,L' n=L n):act C ops e' L' o=some out:=by
 simp only[act,Option.bind_eq_some_iff]at h ⊢
 obtain ⟨b,hb,h⟩:=h
 refine ⟨b,by rw[zAW he]; exact hb,?_⟩
 cases b with
 | false=>exact h
 | true =>
  simp only[cond_true]at h ⊢
  have hρ:∀ x ∈ o.op.operands,ziF C.G e' x=ziF C.G e x:=fun x hx=>zCA fun t ht=>he t (zDQ (by rw[←ht]; exact hx))
  rcases T.m with hm | hm
  ·exact zD6 hm h hρ
  refine zCX h hρ (hL _ T.dn) (fun x hx n hn=>hL n ?_) (fun n hn=>hL n (T.wn n (T.w n hn)))
  by_cases ht:∃ t,x=.tmp t
  ·obtain ⟨t,rfl⟩:=ht
   exact hm t (zDQ hx) n hn
  ·rw[zB1 x (fun t e=>ht ⟨t,e⟩)]at hn
   cases hn
theorem zx8 {c:List (Nat × Option (List PE))} {x:A} (h:∀ n ∈ x.names,n ∉ zdC c):zep c x=x:=by
 unfold zep; rw[A.all_of x h]; rfl
theorem zpI {c:List (Nat × Option (List PE))} {x:A} (h:x.all (zar c)=true):zep c x=x:=by
 unfold zep; rw[h]; rfl
theorem zHC {c:List (Nat × Option (List PE))} {x:A} (h:zep c x≠.bad):zep c x=x:=by
 unfold zep at *
 cases hx:x.all (zar c) with
 | true=>rfl
 | false=>rw[hx]at h; exact absurd rfl h
theorem zFd (c d:List (Nat × Option (List PE))) (x:A):zep c (zep d x)=zep d (zep c x):=by
 unfold zep
 cases h1:x.all (zar c)<;>cases h2:x.all (zar d)<;>simp[h1,h2,A.all]
theorem zna {d:Option Nat} {x:A} {t:Nat} (h:d≠some t):putF e d x t=e t:=by
 cases d with
 | none=>rfl
 | some d =>
  simp only[putF]
  have:Nat.beq t d=false:=by
   cases hq:Nat.beq t d with
   | false=>rfl
   | true=>exact absurd (by rw[nbeq.1 hq]) h
  rw[this]; rfl
theorem zxx {d:Nat} {x:A}:putF e (some d) x d=x:=by simp[putF]
theorem swap {oi oj:Oper} {e1 e2:Nat→A} {L1 L2:Nat→Option Blk} {A B:Out} {a b:Ent} (hi:FAct C ops oi e L A e1 L1) (Ti:Told ops oi e L A a) (hj:FAct C ops oj e1 L1 B e2 L2) (Tj:Told ops oj e1 L1 B b)
  (I:Indep a b):∃ e1' L1',FAct C ops oj e L B e1' L1'∧Told ops oj e L B b∧FAct C ops oi e1' L1' A e2 L2∧Told ops oi e1' L1' A a:=by
 obtain ⟨i1,i2,i3,rfl,rfl⟩:=hi
 obtain ⟨j1,j2,j3,rfl,rfl⟩:=hj
 have hcA:∀ n,n ∈ zdC A.cut→n ∈ a.W:=fun n hn=>Ti.w n (List.mem_append_right _ hn)
 have hcB:∀ n,n ∈ zdC B.cut→n ∈ b.W:=fun n hn=>Tj.w n (List.mem_append_right _ hn)
 have f1:∀ t ∈ oj.looksAt ops,e t=putF (fun t=>zep A.cut (e t)) oi.dst A.val t:=by
  intro t ht
  obtain ⟨q1,q2,q3⟩:=Tj.r t ht
  have hne:oi.dst≠some t:=by
   intro h
   exact (I.dr t (by rw[Ti.d]; exact h)).1 q1
  rw[zna hne]at q2 ⊢
  exact (zHC q2).symm
 have f2:∀ n ∈ b.N,L n=A.mem L n:=fun n hn=>(zjE fun h=>I.wn n (Ti.w n h) hn).symm
 have g1:act C ops e L oj=some B:=zz0 j1 Tj f1 f2
 have g3:Hall B L:=by
  intro m x hm
  obtain ⟨k1,k2⟩:=zhl.1 hm
  rcases k2 with k2 | ⟨k2,k3⟩
  ·exact j3 m x (zhl.2 ⟨k1,.inl k2⟩)
  ·by_cases hw:m ∈ A.writes
   ·exact Blk.all_of x fun n hn hc=>I.nw n (hcB n hc) (Ti.old m (Ti.w m hw) x k3 n hn)
   ·exact j3 m x (zhl.2 ⟨k1,.inr ⟨k2,by rw[zjE hw]; exact k3⟩⟩)
 have Tj':Told ops oj e L B b:=by
  refine { Tj with r:=fun t ht=>?_,m:=?_,old:=fun m hm x hx=>?_ }
  ·rw[f1 t ht]; exact Tj.r t ht
  ·exact Tj.m.imp id fun h t ht=>by rw[f1 t ht]; exact h t ht
  ·rw[f2 m (Tj.wn m hm)]at hx; exact Tj.old m hm x hx
 have f3:∀ t ∈ oi.looksAt ops,putF (fun t=>zep B.cut (e t)) oj.dst B.val t=e t:=by
  intro t ht
  obtain ⟨q1,q2,q3⟩:=Ti.r t ht
  have hne:oj.dst≠some t:=by
   intro h
   exact I.rd t (by rw[Tj.d]; exact h) q1
  rw[zna hne]
  rcases q3 with q3 | q3
  ·exact zx8 fun n hn hc=>I.nw n (hcB n hc) (q3 n hn)
  ·exact zpI (Tj.x ▸ I.vx _ q3)
 have f4:∀ n ∈ a.N,B.mem L n=L n:=fun n hn=>zjE fun h=>I.nw n (Tj.w n h) hn
 have g4:act C ops (putF (fun t=>zep B.cut (e t)) oj.dst B.val) (B.mem L) oi=some A:=zz0 i1 Ti f3 f4
 have g5:Hall A (B.mem L):=by
  intro m x hm
  obtain ⟨k1,k2⟩:=zhl.1 hm
  rcases k2 with k2 | ⟨k2,k3⟩
  ·exact i3 m x (zhl.2 ⟨k1,.inl k2⟩)
  ·obtain ⟨l1,l2⟩:=zhl.1 k3
   rcases l2 with l2 | ⟨l2,l3⟩
   ·exact Blk.all_of x fun n hn hc=>I.wn n (hcA n hc) (Tj.u m x l2 n hn)
   ·exact i3 m x (zhl.2 ⟨k1,.inr ⟨k2,l3⟩⟩)
 have Ti':Told ops oi (putF (fun t=>zep B.cut (e t)) oj.dst B.val) (B.mem L) A a:=by
  refine { Ti with r:=fun t ht=>?_,m:=?_,old:=fun m hm x hx=>?_ }
  ·rw[f3 t ht]; exact Ti.r t ht
  ·exact Ti.m.imp id fun h t ht=>by rw[f3 t ht]; exact h t ht
  ·rw[f4 m (Ti.wn m hm)]at hx; exact Ti.old m hm x hx
 refine ⟨_,_,⟨g1,j2,g3,rfl,rfl⟩,Tj',⟨g4,i2,g5,?_,?_⟩,Ti'⟩
 ·funext t
  have vA:zep B.cut A.val=A.val:=by
   rcases Ti.v with q | q
   ·exact zx8 fun n hn hc=>I.nw n (hcB n hc) (q n hn)
   ·exact zpI (Tj.x ▸ I.vx _ q)
  have vB:zep A.cut B.val=B.val:=by
   rcases Tj.v with q | q
   ·exact zx8 fun n hn hc=>I.wn n (hcA n hc) (q n hn)
   ·exact zpI (Ti.x ▸ I.xv _ q)
  by_cases h1:oi.dst=some t
  ·have h2:oj.dst≠some t:=by
    have:=(I.dr t (by rw[Ti.d]; exact h1)).2
    rw[Tj.d]at this; exact this
   rw[zna h2,h1,zxx,zxx]
   exact vA
  ·rw[zna (e:=fun t=>zep A.cut _) h1]
   by_cases h2:oj.dst=some t
   ·rw[h2,zxx,zxx]
    exact vB.symm
   ·rw[zna h2,zna h2,zna h1]
    exact zFd _ _ _
 ·funext n
  by_cases h1:n ∈ A.writes
  ·have h2:n ∉ B.writes:=fun h=>I.wn n (Ti.w n h1) (Tj.wn n (Tj.w n h))
   rw[zjE h2]
   unfold Out.mem
   have:B.mem L n=L n:=zjE h2
   unfold Out.mem at this
   rw[this]
  ·rw[zjE (L:=B.mem L) h1]
   unfold Out.mem
   have:A.mem L n=L n:=zjE h1
   unfold Out.mem at this
   rw[this]
end
end Go.Proofs.YtnolgfdjcipmmaaDoor.M
namespace Go.Proofs.YtnolgfdjcipmmaaDoor.M
open Go
inductive Run (C:Cfg) (ops:Array Oper):List (Nat × Ent)→(Nat→A)→(Nat→Option Blk)→(Nat→A)→(Nat→Option Blk)→Prop
 | nil {e L}:Run C ops [] e L e L
 | cons {i a l o out e L e1 L1 e' L'}:ops[i]?=some o→FAct C ops o e L out e1 L1→Told ops o e L out a→Run C ops l e1 L1 e' L'→Run C ops ((i,a) :: l) e L e' L'
section
variable {C:Cfg} {ops:Array Oper}
theorem Run.front {j:Nat} {b:Ent} {post:List (Nat × Ent)} {e':Nat→A} {L':Nat→Option Blk}:∀ (pre:List (Nat × Ent)) {e:Nat→A} {L:Nat→Option Blk},Run C ops (pre++(j,b) :: post) e L e' L'→(∀ p ∈ pre,Indep p.2 b) →
  ∃ o out e1 L1,ops[j]?=some o∧FAct C ops o e L out e1 L1∧Told ops o e L out b∧Run C ops (pre++post) e1 L1 e' L'
 | [],e,L,r,_=>by
  cases r with
  | cons h1 h2 h3 h4=>exact ⟨_,_,_,_,h1,h2,h3,h4⟩
 | (i,a) :: pre,e,L,r,h=>by
  cases r with
  | cons h1 h2 h3 h4 =>
   obtain ⟨oj,B,e2,L2,g1,g2,g3,g4⟩:=Run.front pre h4 (fun p hp=>h p (by simp[hp]))
   obtain ⟨e3,L3,q1,q2,q3,q4⟩:=swap h2 h3 g2 g3 (h (i,a) (by simp))
   exact ⟨oj,B,e3,L3,g1,q1,q2,.cons h1 q3 q4 g4⟩
def zBE (ops:Array Oper):Nat→Nat→Nat→Bool
 | 0,_,_=>false
 | n+1,p,q=>match ops[q]? with
  | some o=>o.after.toList.any fun ed=>Region.binds .any ed && (Nat.beq ed.on p || zBE ops n p ed.on)
  | none=>false
theorem zpU {listed:Array Bool} (down:∀ (j:Nat) (o:Oper),ops[j]?=some o→listed.getD j false=true→∀ ed ∈ o.after,Region.binds .any ed=true→listed.getD ed.on false=true) :
  ∀ (n:Nat) {p q:Nat},zBE ops n p q=true→(∀ o,ops[q]?=some o→∀ ed ∈ o.after,Region.binds .any ed=true→listed.getD ed.on false=true)→listed.getD p false=true
 | 0,p,q,h,_=>by simp[zBE]at h
 | n+1,p,q,h,hq=>by
  unfold zBE at h
  split at h
  ·rename_i o ho
   rw[List.any_eq_true]at h
   obtain ⟨ed,hed,h⟩:=h
   simp only[Bool.and_eq_true,Bool.or_eq_true,nbeq]at h
   have hl:=hq o ho ed (by simpa using hed) h.1
   rcases h.2 with h2 | h2
   ·rw[←h2]; exact hl
   ·exact zpU down n h2 fun o' ho' ed' hed' hb=>down _ o' ho' hl ed' hed' hb
  ·cases h
theorem zFL (hC:CfgOK C) {k:Wk} (hk:k.G=C.G) (hn:k.nt=C.nt∧k.np=C.np) (hlow:∀ (j:Nat) (o:Oper),ops[j]?=some o→∀ ed ∈ o.after,Region.binds .any ed=true→ed.on < j) {Q:Exit→Act→World→Prop} {e':Nat→A} {L':Nat→Option Blk}
  (hQ:∀ β S a w,RlF k β S e' L' a w→Q .normal a w) (n:Nat):∀ (l:List (Nat × Ent)) (listed:Array Bool) (β:Nat→Value) (S:Nat→Prop) (a:Act) (w:World) (e:Nat→A) (L:Nat→Option Blk),
  Run C ops l e L e' L'→l.Pairwise (fun p q=>p.1 < q.1∧(Indep p.2 q.2∨zBE ops n p.1 q.1=true))→listed.size=ops.size →
  (∀ j,j < ops.size→(listed.getD j true=false↔∃ b,(j,b) ∈ l)) →
  (∀ (j:Nat) (o:Oper),ops[j]?=some o→listed.getD j false=true→∀ ed ∈ o.after,Region.binds .any ed=true→listed.getD ed.on false=true) →
  RlF k β S e L a w→wpAny C.P .any ops Q l.length listed a w:=by
 have gd:∀ (listed:Array Bool) (j:Nat),j < listed.size→listed.getD j true=listed.getD j false:=by
  intro listed j hj; simp[hj]
 intro l
 induction hl:l.length generalizing l with
 | zero =>
  intro listed β S a w e L hr hp hs hli hd R
  have:l=[]:=List.length_eq_zero_iff.1 hl
  subst this
  cases hr
  refine ⟨?_,hQ β S a w R⟩
  rw[List.eq_nil_iff_forall_not_mem]
  intro j hj
  obtain ⟨h0,o,ho,_⟩:=mem_ready.1 hj
  have hlt:j < ops.size:=(Array.getElem?_eq_some_iff.1 ho).1
  obtain ⟨b,hb⟩:=(hli j hlt).1 h0
  cases hb
 | succ fuel ih =>
  intro listed β S a w e L hr hp hs hli hd R
  refine ⟨fun h0=>?_,fun i hi=>?_⟩
  ·exfalso
   cases l with
   | nil=>simp at hl
   | cons p l =>
    obtain ⟨i,b⟩:=p
    cases hr with
    | cons h1 h2 h3 h4 =>
     rename_i o out e1 L1
     have hlt:i < ops.size:=(Array.getElem?_eq_some_iff.1 h1).1
     have hin:i ∈ Region.ready .any ops listed:=by
      rw[mem_ready]
      refine ⟨(hli i hlt).2 ⟨b,by simp⟩,o,h1,fun ed hed hb=>?_⟩
      have hlo:=hlow i o h1 ed hed hb
      cases hq:listed.getD ed.on false with
      | true=>rfl
      | false =>
       have hlt':ed.on < ops.size:=by omega
       rw[←gd listed ed.on (by omega)]at hq
       obtain ⟨b',hb'⟩:=(hli ed.on hlt').1 hq
       rcases List.mem_cons.1 hb' with h | h
       ·cases h; omega
       ·have:=(List.rel_of_pairwise_cons hp h).1
        simp only at this
        omega
     rw[h0]at hin
     cases hin
  ·obtain ⟨hun,oi,hoi,hall⟩:=mem_ready.1 hi
   have hlt:i < ops.size:=(Array.getElem?_eq_some_iff.1 hoi).1
   obtain ⟨b,hb⟩:=(hli i hlt).1 hun
   obtain ⟨pre,post,rfl⟩:=List.append_of_mem hb
   have hind:∀ p ∈ pre,Indep p.2 b:=by
    intro p hp'
    have:=(List.pairwise_append.1 hp).2.2 p hp' (i,b) (by simp)
    rcases this.2 with h | h
    ·exact h
    ·exfalso
     have hlp:=zpU (listed:=listed) hd n h (fun o ho ed hed hbd=>by rw[hoi]at ho; cases ho; exact hall ed hed hbd)
     have hpl:p.1 < ops.size:=by have:=this.1; simp only at this; omega
     have:=(hli p.1 hpl).2 ⟨p.2,by simp[hp']⟩
     rw[gd listed p.1 (by omega),hlp]at this
     cases this
   obtain ⟨o,out,e1,L1,g1,g2,g3,g4⟩:=Run.front pre hr hind
   refine FStep.sound hC hk hn R (FAct.step g1 g2) fun β' S' a' w' R'=>?_
   have hkeys:∀ q ∈ pre++post,q.1≠i:=by
    intro q hq
    rcases List.mem_append.1 hq with hq | hq
    ·have:=((List.pairwise_append.1 hp).2.2 q hq (i,b) (by simp)).1
     simp only at this
     omega
    ·have:=(List.rel_of_pairwise_cons (List.pairwise_append.1 hp).2.1 hq).1
     simp only at this
     omega
   refine ih (pre++post) (by simp at hl ⊢; omega) (listed.setIfInBounds i true) β' S' a' w' e1 L1 g4 ?_ (by simp[hs]) ?_ ?_ R'
   ·refine hp.sublist ?_
    exact List.Sublist.append (List.Sublist.refl _) (List.sublist_cons_self _ _)
   ·intro j hj
    by_cases hij:i=j
    ·subst hij
     constructor
     ·intro h; simp[hs,hlt]at h
     ·rintro ⟨b',hb'⟩; exact absurd rfl (hkeys _ hb')
    ·rw[Go.getD_set_ne true hij,hli j hj]
     constructor
     ·rintro ⟨b',hb'⟩
      refine ⟨b',?_⟩
      rcases List.mem_append.1 hb' with h | h
      ·exact List.mem_append_left _ h
      ·rcases List.mem_cons.1 h with h | h
       ·cases h; exact absurd rfl hij
       ·exact List.mem_append_right _ h
     ·rintro ⟨b',hb'⟩
      refine ⟨b',?_⟩
      rcases List.mem_append.1 hb' with h | h
      ·exact List.mem_append_left _ h
      ·exact List.mem_append_right _ (List.mem_cons_of_mem _ h)
   ·intro j o' ho' hj ed hed hbd
    by_cases hij:i=j
    ·subst hij
     rw[hoi]at ho'; cases ho'
     exact getD_set_true (hall ed hed hbd)
    ·rw[Go.getD_set_ne false hij]at hj
     exact getD_set_true (hd j o' ho' hj ed hed hbd)
inductive RunP (C:Cfg) (ops:Array Oper):List Nat→(Nat→A)→(Nat→Option Blk)→(Nat→A)→(Nat→Option Blk)→Prop
 | nil {e L}:RunP C ops [] e L e L
 | cons {i l o out e L e1 L1 e' L'}:ops[i]?=some o→FAct C ops o e L out e1 L1→RunP C ops l e1 L1 e' L'→RunP C ops (i :: l) e L e' L'
theorem zzN (hC:CfgOK C) {k:Wk} (hk:k.G=C.G) (hn:k.nt=C.nt∧k.np=C.np) {Q:Exit→Act→World→Prop} {e':Nat→A} {L':Nat→Option Blk}
  (hQ:∀ β S a w,RlF k β S e' L' a w→Q .normal a w):∀ (l:List Nat) (β:Nat→Value) (S:Nat→Prop) (a:Act) (w:World) (e:Nat→A) (L:Nat→Option Blk),
  RunP C ops l e L e' L'→RlF k β S e L a w→wpOps C.P ops Q l a w
 | [],β,S,a,w,e,L,hr,R=>by cases hr; exact hQ β S a w R
 | i :: l,β,S,a,w,e,L,hr,R=>by
  cases hr with
  | cons h1 h2 h4 =>
   rw[wpOps_cons]
   exact FStep.sound hC hk hn R (FAct.step h1 h2) fun β' S' a' w' R'=>zzN hC hk hn hQ l β' S' a' w' _ _ h4 R'
end
end Go.Proofs.YtnolgfdjcipmmaaDoor.M
namespace Go.Proofs.YtnolgfdjcipmmaaDoor.M
open Go
def St.e (st:St):Nat→A:=fun t=>(lk st.E t).getD .bad
def putE (E:List (Nat × A)):Option Nat→A→List (Nat × A)
 | some d,x=>(d,x) :: E.filter fun p=>!Nat.beq p.1 d
 | none,_=>E
def zAq (E:List (Nat × A)):List (Nat × Option (List PE))→List (Nat × A)
 | []=>E
 | c :: cs=>E.map fun p=>(p.1,zep (c :: cs) p.2)
def setL (L:List (Nat × Blk)):List (Nat × Blk)→List (Nat × Blk)
 | []=>L
 | (n,b) :: r=>(n,b) :: (setL L r).filter fun p=>!Nat.beq p.1 n
def zBj (L:List (Nat × Blk)):List (Nat × Option (List PE))→List (Nat × Blk)
 | []=>L
 | c :: cs=>L.filter fun p=>!za5 (c :: cs) p.1
def zIQ (L:List (Nat × Blk)):List (Nat × Option (List PE))→Bool
 | []=>true
 | c :: cs=>L.all fun p=>p.2.all (zar (c :: cs))
def dstB (np nt:Nat):Option Nat→Bool
 | some d=>Nat.ble np d && Nat.blt d nt
 | none=>true
def after (C:Cfg) (d:Option Nat) (st:St) (out:Out):Option St :=
 if dstB C.np C.nt d && zIQ (zBj (setL st.L out.upd) out.cut) out.cut then some { E:=putE (zAq st.E out.cut) d out.val,L:=zBj (setL st.L out.upd) out.cut } else none
theorem zcz {α:Type} (q:Nat→Bool):∀ (l:List (Nat × α)) (n:Nat),lk (l.filter fun p=>q p.1) n=if q n=true then lk l n else none
 | [],n=>by simp[lk]
 | (m,x) :: l,n=>by
  by_cases hm:q m=true
  ·rw[List.filter_cons_of_pos (by exact hm),zaD,zaD,zcz q l n]
   by_cases e:m=n
   ·subst e; simp[hm]
   ·rw[if_neg e,if_neg e]
  ·rw[List.filter_cons_of_neg (by exact hm),zcz q l n,zaD]
   by_cases e:m=n
   ·subst e; simp[hm]
   ·rw[if_neg e]
theorem zow {α β:Type} (f:α→β):∀ (l:List (Nat × α)) (n:Nat),lk (l.map fun p=>(p.1,f p.2)) n=(lk l n).map f
 | [],n=>rfl
 | (m,x) :: l,n=>by
  rw[List.map_cons,zaD,zaD,zow f l n]
  by_cases e:m=n
  ·rw[if_pos e,if_pos e]; rfl
  ·rw[if_neg e,if_neg e]
theorem ziG {m n:Nat} (h:m≠n):Nat.beq m n=false:=by
 cases hq:Nat.beq m n with
 | false=>rfl
 | true=>exact absurd (nbeq.1 hq) h
theorem zJG (E:List (Nat × A)) (d:Option Nat) (x:A):(fun t=>(lk (putE E d x) t).getD .bad)=putF (fun t=>(lk E t).getD .bad) d x:=by
 funext t
 cases d with
 | none=>rfl
 | some d =>
  simp only[putE,putF,zaD]
  by_cases h:d=t
  ·subst h; simp
  ·rw[if_neg h,ziG (fun q=>h q.symm),cond_false,zcz (fun m=>!Nat.beq m d),ziG (fun q=>h q.symm)]
   rfl
theorem zHR (E:List (Nat × A)) (c:List (Nat × Option (List PE))):(fun t=>(lk (zAq E c) t).getD .bad)=fun t=>zep c ((lk E t).getD .bad):=by
 funext t
 cases c with
 | nil=>rw[zAi]; rfl
 | cons c cs =>
  simp only[zAq,zow]
  cases lk E t with
  | none=>rfl
  | some x=>rfl
theorem zHi (L:List (Nat × Blk)):∀ (u:List (Nat × Blk)) (n:Nat),lk (setL L u) n=match lk u n with | some b=>some b | none=>lk L n
 | [],n=>rfl
 | (m,b) :: r,n=>by
  simp only[setL,zaD]
  by_cases h:m=n
  ·rw[if_pos h,if_pos h]
  ·rw[if_neg h,if_neg h,zcz (fun k=>!Nat.beq k m),ziG (fun q=>h q.symm)]
   simp only[Bool.not_false,if_true]
   exact zHi L r n
theorem zH5 (L:List (Nat × Blk)) (c:List (Nat × Option (List PE))) (n:Nat):lk (zBj L c) n=if za5 c n=true then none else lk L n:=by
 cases c with
 | nil=>rfl
 | cons c cs =>
  simp only[zBj,zcz (fun k=>!za5 (c :: cs) k)]
  cases za5 (c :: cs) n<;>rfl
theorem zIB (L:List (Nat × Blk)) (o:Out):lk (zBj (setL L o.upd) o.cut)=o.mem (lk L):=by
 funext n
 rw[zH5]
 unfold Out.mem
 rw[zHi]
 cases lk o.upd n<;>rfl
theorem zsJ {C:Cfg} {ops:Array Oper} {o:Oper} {st st':St} {out:Out} (h1:act C ops st.e (lk st.L) o=some out) (h2:after C o.dst st out=some st'):FAct C ops o st.e (lk st.L) out st'.e (lk st'.L):=by
 unfold after at h2
 split at h2
 ·rename_i hc
  cases h2
  simp only[Bool.and_eq_true]at hc
  refine ⟨h1,?_,?_,?_,zIB st.L out⟩
  ·intro d hd
   rw[hd]at hc
   simp only[dstB,Bool.and_eq_true]at hc
   exact ⟨Nat.le_of_ble_eq_true hc.1.1,Nat.le_of_ble_eq_true hc.1.2⟩
  ·intro m b hm
   rw[←zIB]at hm
   have hm:=zcn hm
   have:=hc.2
   cases hcut:out.cut with
   | nil=>exact Blk.all_true b
   | cons c cs =>
    rw[hcut]at this hm
    simp only[zIQ,List.all_eq_true]at this
    exact this _ hm
  ·show (fun t=>(lk (putE (zAq st.E out.cut) o.dst out.val) t).getD .bad)=_
   rw[zJG,zHR]
   rfl
 ·cases h2
def eqb (b:Bool):Bool→Bool
 | true=>b
 | false=>!b
inductive GI where
 | yes | no | on (b:Bool) | bad
def zpY (ops:Array Oper) (e:Nat→A) (o:Oper):GI :=
 match o.guard with
 | none=>.yes
 | some (j,want)=>match (ops[j]?).bind (·.dst) with
  | none=>.no
  | some g=>match e g with
   | .pv (.sc .b b)=>.on (eqb b want)
   | .und=>.no
   | _=>.bad
def setG (ops:Array Oper) (o:Oper) (b:Bool) (st:St):St :=
 match o.guard with
 | some (j,want)=>match (ops[j]?).bind (·.dst) with
  | some g=>{ st with E:=(g,A.pv (.sc .b (eqb b want))) :: st.E.filter fun p=>!Nat.beq p.1 g }
  | none=>st
 | none=>st
theorem zEd {ops:Array Oper} {e:Nat→A} {o:Oper} (h:zpY ops e o=.yes):zg3 ops e o=some true:=by
 unfold zpY at h
 unfold zg3
 split at h
 ·rename_i hg; rw[hg]
 ·rename_i j want hg
  split at h
  ·cases h
  ·split at h<;>cases h
theorem zG7 {ops:Array Oper} {e:Nat→A} {o:Oper} (h:zpY ops e o=.no):zg3 ops e o=some false:=by
 unfold zpY at h
 unfold zg3
 split at h
 ·cases h
 ·rename_i j want hg
  rw[hg]
  simp only
  split at h
  ·rename_i hj; rw[hj]
  ·rename_i g hj
   rw[hj]
   simp only
   split at h
   ·cases h
   ·rename_i hu; rw[hu]
   ·cases h
theorem zIF (b want:Bool):(b == want)=eqb b want:=by cases b<;>cases want<;>rfl
theorem zI3 (b want:Bool):eqb (eqb b want) want=b:=by cases b<;>cases want<;>rfl
theorem zGn {ops:Array Oper} {st:St} {o:Oper} {b:Bool} (h:zpY ops st.e o=.on b):zg3 ops st.e o=some b∧(setG ops o b st).e=st.e∧(setG ops o b st).L=st.L:=by
 unfold zpY at h
 unfold zg3 setG
 split at h
 ·cases h
 ·rename_i j want hg
  rw[hg]
  simp only
  split at h
  ·cases h
  ·rename_i g hj
   rw[hj]
   simp only
   split at h
   ·rename_i b0 hb
    cases h
    rw[hb]
    refine ⟨by simp only[zIF],?_,by trivial⟩
    funext t
    show (lk ((g,A.pv (.sc .b (eqb (eqb b0 want) want))) :: st.E.filter fun p=>!Nat.beq p.1 g) t).getD .bad=st.e t
    rw[zI3,zaD]
    by_cases e:g=t
    ·subst e; rw[if_pos rfl,hb]; rfl
    ·rw[if_neg e,zcz (fun m=>!Nat.beq m g),ziG (fun q=>e q.symm)]; rfl
   ·cases h
   ·cases h
def zJV:A→Bool
 | .bad=>true
 | _=>false
def zqM (ops:Array Oper) (o:Oper) (st:St) (out:Out):Ent :=
 {
  d:=o.dst,R:=o.looksAt ops,W:=out.writes,
  N:=(bif zp1 o then [] else(o.looksAt ops).flatMap (fun t=>(st.e t).names)++out.val.names)++out.upd.flatMap (fun p=>p.2.names)++out.writes++out.writes.flatMap (fun n=>match lk st.L n with | some b=>b.names | none=>[])++[o.dst.getD 0]
  V:=bif zp1 o then out.val :: (o.looksAt ops).map st.e else []
  X:=out.cut }
def entB (ops:Array Oper) (o:Oper) (st:St):Bool:=(o.looksAt ops).all fun t=>!zJV (st.e t)
theorem zEl {C:Cfg} {ops:Array Oper} {o:Oper} {st:St} {out:Out} (h:entB ops o st=true):Told ops o st.e (lk st.L) out (zqM ops o st out) where
 d:=rfl
 r t ht:=by
  refine ⟨ht,?_,?_⟩
  ·simp only[entB,List.all_eq_true]at h
   have:=h t ht
   intro e
   rw[e]at this
   cases this
  ·cases hp:zp1 o with
   | true =>
    right
    simp only[zqM,hp,cond_true]
    exact List.mem_cons_of_mem _ (List.mem_map.2 ⟨t,ht,rfl⟩)
   | false =>
    left
    intro n hn
    simp only[zqM,hp,cond_false,List.mem_append,List.mem_flatMap]
    exact .inl (.inl (.inl (.inl (.inl ⟨t,ht,hn⟩))))
 v:=by
  cases hp:zp1 o with
  | true =>
   right
   simp only[zqM,hp,cond_true]
   exact List.mem_cons_self
  | false =>
   left
   intro n hn
   simp only[zqM,hp,cond_false,List.mem_append]
   exact .inl (.inl (.inl (.inl (.inr hn))))
 m:=by
  cases hp:zp1 o with
  | true=>exact .inl rfl
  | false =>
   right
   intro t ht n hn
   simp only[zqM,hp,cond_false,List.mem_append,List.mem_flatMap]
   exact .inl (.inl (.inl (.inl (.inl ⟨t,ht,hn⟩))))
 x:=rfl
 u m b hm n hn:=by
  simp only[zqM,List.mem_append,List.mem_flatMap]
  exact .inl (.inl (.inl (.inr ⟨_,zcn hm,hn⟩)))
 w n hn:=hn
 wn n hn:=by simp only[zqM,List.mem_append]; exact .inl (.inl (.inr hn))
 old m hm b hb n hn:=by
  simp only[zqM,List.mem_append,List.mem_flatMap]
  exact .inl (.inr ⟨m,hm,by rw[hb]; exact hn⟩)
 dn:=by simp[zqM]
def zDP (xs ys:List Nat):Bool:=xs.all fun x=>!memN x ys
theorem zv8 {xs ys:List Nat} (h:zDP xs ys=true):∀ n ∈ xs,n ∉ ys:=by
 intro n hn hq
 simp only[zDP,List.all_eq_true,Bool.not_eq_true']at h
 have:=h n hn
 rw[zbU.2 hq]at this
 cases this
def zG8 (a b:Ent):Bool :=
 (match a.d with
  | some d=>!memN d b.R && (match b.d with
   | some d'=>!Nat.beq d d'
   | none=>true)
  | none=>true) &&
 (match b.d with
  | some d=>!memN d a.R
  | none=>true) && zDP a.W b.N && zDP b.W a.N && (a.V.all fun x=>x.all (zar b.X)) && b.V.all fun x=>x.all (zar a.X)
theorem zy7 {a b:Ent} (h:zG8 a b=true):Indep a b:=by
 simp only[zG8,Bool.and_eq_true]at h
 obtain ⟨⟨⟨⟨⟨h1,h2⟩,h3⟩,h4⟩,h5⟩,h6⟩:=h
 refine ⟨fun d hd=>?_,fun d hd=>?_,zv8 h3,zv8 h4,List.all_eq_true.1 h5,List.all_eq_true.1 h6⟩
 ·rw[hd]at h1
  simp only[Bool.and_eq_true,Bool.not_eq_true']at h1
  constructor
  ·intro hq
   have:=h1.1
   rw[zbU.2 hq]at this
   cases this
  ·intro hq
   have:=h1.2
   rw[hq]at this
   simp at this
 ·rw[hd]at h2
  simp only[Bool.not_eq_true']at h2
  intro hq
  rw[zbU.2 hq]at h2
  cases h2
def zvl (ops:Array Oper) (n:Nat):List (Nat × Ent)→Bool
 | []=>true
 | p :: l=>(l.all fun q=>zBE ops n p.1 q.1 || zG8 p.2 q.2) && zvl ops n l
def lowB (ops:List Oper) (i:Nat):Bool :=
 match ops with
 | []=>true
 | o :: r=>(o.after.toList.all fun ed=>!Region.binds .any ed || Nat.blt ed.on i) && lowB r (i+1)
theorem zqq {ops:Array Oper} {n:Nat}:∀ {l:List (Nat × Ent)},zvl ops n l=true→(l.map (·.1)).Pairwise (· < ·)→l.Pairwise (fun p q=>p.1 < q.1∧(Indep p.2 q.2∨zBE ops n p.1 q.1=true))
 | [],_,_=>.nil
 | p :: l,h,hs=>by
  simp only[zvl,Bool.and_eq_true,List.all_eq_true,Bool.or_eq_true]at h
  rw[List.map_cons,List.pairwise_cons]at hs
  refine .cons (fun q hq=>⟨hs.1 q.1 (List.mem_map_of_mem hq),?_⟩) (zqq h.2 hs.2)
  rcases h.1 q hq with h | h
  ·exact .inr h
  ·exact .inl (zy7 h)
theorem zvC:∀ (l:List Oper) (i:Nat),lowB l i=true→∀ (j:Nat) (o:Oper),l[j]?=some o→∀ ed ∈ o.after,Region.binds .any ed=true→ed.on < i+j
 | [],i,_,j,o,ho,_,_,_=>by simp at ho
 | x :: l,i,h,j,o,ho,ed,hed,hb=>by
  simp only[lowB,Bool.and_eq_true,List.all_eq_true]at h
  cases j with
  | zero =>
   simp at ho
   subst ho
   have:=h.1 ed (by simpa using hed)
   simp only[hb,Bool.not_true,Bool.false_or]at this
   exact Nat.le_of_ble_eq_true this
  | succ j =>
   have:=zvC l (i+1) h.2 j o (by simpa using ho) ed hed hb
   omega
end Go.Proofs.YtnolgfdjcipmmaaDoor.M
namespace Go.Proofs.YtnolgfdjcipmmaaDoor.M
open Go
def zri (L:List (Nat × Blk)) (n:Nat):List Nat:=match lk L n with
 | some b=>b.names
 | none=>[]
def zf0 (live:List Nat) (st:St):List Nat :=
 let n1:=addN [] (live.flatMap fun t=>(st.e t).names)
 let n2:=addN n1 (n1.flatMap (zri st.L))
 addN n2 (n2.flatMap (zri st.L))
def zha (ns:List Nat) (st:St):List Nat→List (Nat × Blk)
 | []=>[]
 | n :: r=>match lk st.L n with
  | some b=>(renF ns n,b.ren (renF ns)) :: zha ns st r
  | none=>zha ns st r
def zDs (ns:List Nat) (st:St):Bool:=ns.all fun n=>match lk st.L n with
 | some b=>b.all (isIn ns)
 | none=>true
def zAl (live:List Nat) (st:St):Option St :=
 let ns:=zf0 live st
 if live.all (fun t=>(st.e t).all (isIn ns)) && zDs ns st then
  some { E:=live.map fun t=>(t,(st.e t).ren (renF ns)),L:=zha ns st ns }
 else none
theorem zoq {ns:List Nat} {st:St} {n:Nat}:∀ {l:List Nat},(∀ m ∈ l,m ∈ ns)→n ∈ l→lk (zha ns st l) (renF ns n)=(lk st.L n).map (Blk.ren (renF ns))
 | m :: r,hl,hn=>by
  have hr:∀ m ∈ r,m ∈ ns:=fun x hx=>hl x (by simp[hx])
  unfold zha
  by_cases e:m=n
  ·subst e
   cases hq:lk st.L m with
   | some b=>simp only[zaD]; rfl
   | none =>
    simp only
    by_cases hm:m ∈ r
    ·rw[zoq hr hm,hq]
    ·clear hn
     have gen:∀ {l:List Nat},(∀ x ∈ l,x ∈ ns)→m ∉ l→lk (zha ns st l) (renF ns m)=none:=by
      intro l
      induction l with
      | nil=>intro _ _; rfl
      | cons x l ih =>
       intro h1 h2
       unfold zha
       have ih:=ih (fun y hy=>h1 y (by simp[hy])) (fun h=>h2 (by simp[h]))
       cases lk st.L x with
       | none=>exact ih
       | some b =>
        simp only[zaD]
        rw[if_neg (fun q=>h2 (by rw[zlE (h1 x (by simp)) (hl m (by simp)) q]; simp))]
        exact ih
     rw[gen hr hm]; rfl
  ·have hn':n ∈ r:=by
    rcases List.mem_cons.1 hn with h | h
    ·exact absurd h.symm e
    ·exact h
   cases hq:lk st.L m with
   | some b =>
    simp only[zaD]
    rw[if_neg (fun q=>e (zlE (hl m (by simp)) (hl n (by simp[hn'])) q))]
    exact zoq hr hn'
   | none=>exact zoq hr hn'
theorem zvL {ns:List Nat} {st:St} {m:Nat} {b:Blk}:∀ {l:List Nat},lk (zha ns st l) m=some b→∃ n b0,n ∈ l∧m=renF ns n∧lk st.L n=some b0∧b=b0.ren (renF ns)
 | [],h=>by cases h
 | n :: r,h=>by
  unfold zha at h
  have tail:lk (zha ns st r) m=some b→∃ n' b0,n' ∈ n :: r∧m=renF ns n'∧lk st.L n'=some b0∧b=b0.ren (renF ns):=by
   intro h
   obtain ⟨n',b0,q1,q2⟩:=zvL h
   exact ⟨n',b0,by simp[q1],q2⟩
  cases hq:lk st.L n with
  | some b1 =>
   rw[hq]at h
   simp only[zaD]at h
   by_cases e:renF ns n=m
   ·rw[if_pos e]at h
    cases h
    exact ⟨n,b1,by simp,e.symm,hq,rfl⟩
   ·rw[if_neg e]at h
    exact tail h
  | none =>
   rw[hq]at h
   exact tail h
theorem zwj {α:Type} (g:Nat→α):∀ (live:List Nat) (t:Nat),lk (live.map fun t=>(t,g t)) t=if t ∈ live then some (g t)else none
 | [],t=>by simp[lk]
 | m :: r,t=>by
  rw[List.map_cons,zaD,zwj g r t]
  by_cases e:m=t
  ·subst e; simp
  ·rw[if_neg e]
   by_cases h:t ∈ r
   ·rw[if_pos h,if_pos (by simp[h])]
   ·rw[if_neg h,if_neg (by simp[h]; exact fun q=>e q.symm)]
theorem zu0 {ns:List Nat} {st:St} (c2:∀ n ∈ ns,∀ b,lk st.L n=some b→b.all (isIn ns)=true) {β:Nat→Value} {S:Nat→Prop} {h:Array Obj} {N0:Nat} {F:Nat→Prop} (M:MS β S h N0 F (lk st.L)) :
  ∃ β',MS β' S h N0 F (lk (zha ns st ns))∧(∀ x v,x.all (isIn ns)=true→RepA β S h (lk st.L) x v→RepA β' S h (lk (zha ns st ns)) (x.ren (renF ns)) v)∧∀ m b,lk (zha ns st ns) m=some b→∃ n b0,n ∈ ns∧lk st.L n=some b0∧β' m=β n:=by
 let L1:Nat→Option Blk:=fun n=>if n ∈ ns then lk st.L n else none
 let L2:=lk (zha ns st ns)
 let β2:Nat→Value:=fun m=>match ns.find? (fun n=>Nat.beq (renF ns n) m) with
  | some n=>β n
  | none=>undef
 have hβ2:∀ n ∈ ns,β2 (renF ns n)=β n:=by
  intro n hn
  show (match ns.find? (fun x=>Nat.beq (renF ns x) (renF ns n))with | some n=>β n | none=>undef)=β n
  cases hq:ns.find? (fun x=>Nat.beq (renF ns x) (renF ns n)) with
  | none =>
   have:=List.find?_eq_none.1 hq n hn
   simp at this
  | some x =>
   have h1:=List.find?_some hq
   have h2:=List.mem_of_find?_eq_some hq
   rw[nbeq]at h1
   rw[zlE h2 hn h1]
 have hL2:∀ n ∈ ns,L2 (renF ns n)=(lk st.L n).map (Blk.ren (renF ns)):=fun n hn=>zoq (fun m hm=>hm) hn
 have hf:∀ n b,L1 n=some b→β2 (renF ns n)=β n∧L2 (renF ns n)=some (b.ren (renF ns)):=by
  intro n b hb
  by_cases hn:n ∈ ns
  ·have hb:lk st.L n=some b:=by simpa [L1,hn] using hb
   exact ⟨hβ2 n hn,by rw[hL2 n hn,hb]; rfl⟩
  ·simp[L1,hn]at hb
 have K:Keeps β β S S h h (lk st.L) L1 (isIn ns):=by
  refine ⟨fun _ h=>h,fun _ _=>rfl,fun v n π hm blk hb=>⟨rfl,blk,?_,SameAt.refl _ _ _⟩⟩
  have hn:n ∈ ns:=zbU.1 hm
  show (if n ∈ ns then lk st.L n else none)=some blk
  rw[if_pos hn]; exact hb
 have inv:∀ m b,L2 m=some b→∃ n b0,n ∈ ns∧m=renF ns n∧lk st.L n=some b0∧b=b0.ren (renF ns):=fun m b hb=>zvL hb
 have M2:MS β2 S h N0 F L2:=by
  refine ⟨?_,?_,?_,M.bound⟩
  ·intro m b hb
   obtain ⟨n,b0,h1,rfl,h3,rfl⟩:=inv m b hb
   have hok:=(M.blk n b0 h3).mono K rfl (fun _ _=>rfl) (c2 n h1 b0 h3)
   exact hok.ren (fun _ h=>h) hf (hβ2 n h1)
  ·intro m b hb q hq
   obtain ⟨n,b0,h1,rfl,h3,rfl⟩:=inv m b hb
   rw[hβ2 n h1]at hq
   exact M.own n b0 h3 q hq
  ·intro m m' hne h1 h2 q hq
   obtain ⟨b,hb⟩:=Option.isSome_iff_exists.1 h1
   obtain ⟨b',hb'⟩:=Option.isSome_iff_exists.1 h2
   obtain ⟨n,b0,i1,rfl,i3,rfl⟩:=inv m b hb
   obtain ⟨n',b0',j1,rfl,j3,rfl⟩:=inv m' b' hb'
   rw[hβ2 n i1]at hq
   rw[hβ2 n' j1]
   exact M.sep n n' (fun e=>hne (by rw[e])) (by rw[i3]; rfl) (by rw[j3]; rfl) q hq
 refine ⟨β2,M2,fun x v hx r=>(r.mono K hx).ren (fun _ h=>h) hf,fun m b hb=>?_⟩
 obtain ⟨n,b0,h1,rfl,h3,_⟩:=inv m b hb
 exact ⟨n,b0,h1,h3,hβ2 n h1⟩
theorem zqC {ns:List Nat} {st:St} (h:zDs ns st=true):∀ n ∈ ns,∀ b,lk st.L n=some b→b.all (isIn ns)=true:=by
 intro n hn b hb
 simp only[zDs,List.all_eq_true]at h
 have:=h n hn
 rw[hb]at this
 exact this
theorem zkz {live:List Nat} {st st':St} (h:zAl live st=some st') {k:Wk} {β:Nat→Value} {S:Nat→Prop} {a:Act} {w:World} (R:RlF k β S st.e (lk st.L) a w):∃ β',RlF k β' S st'.e (lk st'.L) a w∧∀ m b,lk st'.L m=some b→∃ n b0,n ∈ zf0 live st∧lk st.L n=some b0∧β' m=β n:=by
 unfold zAl at h
 simp only at h
 generalize zf0 live st=ns at h
 split at h
 ·rename_i hc
  cases h
  simp only[Bool.and_eq_true]at hc
  obtain ⟨c1,c2⟩:=hc
  rw[List.all_eq_true]at c1
  obtain ⟨β2,M2,tr,inv⟩:=zu0 (zqC c2) R.rl.mem
  refine ⟨β2,⟨{ R.rl with mem:=M2,env:=fun t x hx=>by cases hx },fun t=>?_,fun t ht=>?_⟩,inv⟩
  ·show RepA β2 S w.heap _ ((lk (live.map fun t=>(t,(st.e t).ren (renF ns))) t).getD .bad) (a.tmps.getD t undef)
   rw[zwj (fun t=>(st.e t).ren (renF ns))]
   by_cases ht:t ∈ live
   ·rw[if_pos ht]
    exact tr _ _ (c1 t ht) (R.env t)
   ·rw[if_neg ht]; exact RepA.bad _
  ·show (lk (live.map fun t=>(t,(st.e t).ren (renF ns))) t).getD .bad=.bad
   rw[zwj (fun t=>(st.e t).ren (renF ns))]
   by_cases ht':t ∈ live
   ·rw[if_pos ht',R.big t ht]; rfl
   ·rw[if_neg ht']; rfl
 ·cases h
theorem zdG {live:List Nat} {st st':St} (h:zAl live st=some st') {k:Wk} {β:Nat→Value} {S:Nat→Prop} {a:Act} {w:World} (R:RlF k β S st.e (lk st.L) a w):∃ β',RlF k β' S st'.e (lk st'.L) a w:=by
 obtain ⟨β',h1,_⟩:=zkz h R
 exact ⟨β',h1⟩
end Go.Proofs.YtnolgfdjcipmmaaDoor.M
namespace Go.Proofs.YtnolgfdjcipmmaaDoor.M
open Go
inductive Ex where
 | normal | exit (id:Nat) | ret
def Ex.to:Ex→Exit
 | .normal=>.normal | .exit i=>.exit i | .ret=>.ret
end Go.Proofs.YtnolgfdjcipmmaaDoor.M
namespace Go.Proofs.YtnolgfdjcipmmaaDoor.M
open Go
mutual
def PV.flat:PV→Bool
 | .sc _ _=>true
 | .arr _ _ _=>true
 | .st fs=>PV.flats fs
 | .ar _ xs=>PV.flats xs
 | .sl _ _=>false
 | .sp _ _=>false
 | .nilp=>true
 | .nilm=>true
 | .raw _=>true
def PV.flats:List PV→Bool
 | []=>true
 | x :: xs=>x.flat && PV.flats xs
end
mutual
def A.flat:A→Bool
 | .pv x=>x.flat
 | .rp _=>false
 | .st fs=>A.flats fs
 | .tup fs=>A.flats fs
 | .fn _ fs=>A.flats fs
 | _=>true
def A.flats:List A→Bool
 | []=>true
 | x :: xs=>x.flat && A.flats xs
end
def Blk.flat:Blk→Bool
 | .box c=>c.flat
 | .row (.s _ _) _=>true
 | .row (.p _ xs) _=>PV.flats xs
 | .map kv=>PV.flats (kv.map (·.1)) && PV.flats (kv.map (·.2))
section
variable {β:Nat→Value} {S S2:Nat→Prop} {h:Array Obj} {L:Nat→Option Blk}
mutual
theorem RepPV.flat':∀ {x:PV} {vs:List Value},RepPV S h x vs→x.flat=true→RepPV S2 h x vs
 | _,_,.sc k x,_=>.sc k x
 | _,_,.arr k n v,_=>.arr k n v
 | _,_,.st r,e=>.st (RepL.flat' r (by simpa [PV.flat] using e))
 | _,_,.ar q r,e=>.ar q (RepL.flat' r (by simpa [PV.flat] using e))
 | _,_,.sl ..,e=>by simp[PV.flat]at e
 | _,_,.sp ..,e=>by simp[PV.flat]at e
 | _,_,.nilp,_=>.nilp
 | _,_,.nilm,_=>.nilm
 | _,_,.raw a b,_=>.raw a b
theorem RepL.flat':∀ {xs:List PV} {vs:List Value},RepL S h xs vs→PV.flats xs=true→RepL S2 h xs vs
 | _,_,.nil,_=>.nil
 | _,_,.cons a r,e=>by
  simp only[PV.flats,Bool.and_eq_true]at e
  exact .cons (RepPV.flat' a e.1) (RepL.flat' r e.2)
end
mutual
theorem RepC.flat':∀ {x vs},RepC β S h L x vs→x.flat=true→RepC β S2 h L x vs
 | _,_,.pv r,e=>.pv (r.flat' e)
 | _,_,.st r,e=>.st (RepCL.flat' r (by simpa [A.flat] using e))
 | _,_,.p a b c,_=>.p a b c
 | _,_,.pr a b c d e f,_=>.pr a b c d e f
 | _,_,.rp ..,e=>by simp[A.flat]at e
 | _,_,.o a b,_=>.o a b
 | _,_,.vw a b c d e f g,_=>.vw a b c d e f g
 | _,_,.tup r,e=>.tup (RepT.flat' r (by simpa [A.flat] using e))
 | _,_,.fn r,e=>.fn (RepT.flat' r (by simpa [A.flat] using e))
 | _,_,.und,_=>.und
 | _,_,.bad,_=>.bad
theorem RepCL.flat':∀ {xs vs},RepCL β S h L xs vs→A.flats xs=true→RepCL β S2 h L xs vs
 | _,_,.nil,_=>.nil
 | _,_,.cons a r,e=>by
  simp only[A.flats,Bool.and_eq_true]at e
  exact .cons (RepC.flat' a e.1) (RepCL.flat' r e.2)
theorem RepT.flat':∀ {xs vs},RepT β S h L xs vs→A.flats xs=true→RepT β S2 h L xs vs
 | _,_,.nil,_=>.nil
 | _,_,.cons a r,e=>by
  simp only[A.flats,Bool.and_eq_true]at e
  exact .cons (RepC.flat' a e.1) (RepT.flat' r e.2)
end
theorem RepA.flat' {x:A} {v:Value} (r:RepA β S h L x v) (e:x.flat=true):RepA β S2 h L x v:=by
 obtain ⟨vs,r,q⟩:=r
 exact ⟨vs,r.flat' e,q⟩
theorem RepRC.flat' {rc:RC} {vs:List Value} {ex:Bool} (r:RepRC S h rc vs) (e:(Blk.row rc ex).flat=true):RepRC S2 h rc vs:=by
 cases r with
 | s k xs=>exact .s k xs
 | p q r=>exact .p q (r.flat' (by simpa [Blk.flat] using e))
theorem RepM.flat':∀ {kv:List (PV × PV)} {es:List MapEntry},RepM S h kv es→PV.flats (kv.map (·.1))=true→PV.flats (kv.map (·.2))=true→RepM S2 h kv es
 | _,_,.nil,_,_=>.nil
 | _,_,.cons a b c d r,e1,e2=>by
  simp only[List.map_cons,PV.flats,Bool.and_eq_true]at e1 e2
  exact .cons (a.flat' e1.1) (b.flat' e2.1) c d (RepM.flat' r e1.2 e2.2)
theorem MS.flat' {N0:Nat} {F:Nat→Prop} (M:MS β S h N0 F L) (e:∀ n b,L n=some b→b.flat=true):MS β (fun _=>False) h N0 F L where
 blk n b hb:=by
  have:=M.blk n b hb
  have he:=e n b hb
  cases b with
  | box c =>
   obtain ⟨b,cs,T,h1,h2,h3⟩:=this
   exact ⟨b,cs,T,h1,h2,h3.flat' he⟩
  | row rc ex =>
   obtain ⟨a,cap,h1,h2,h3,h4⟩:=this
   refine ⟨a,cap,h1,h2,h3,?_⟩
   rcases h4 with h4 | ⟨b,o,cs,T,q1,q2,q3,X,vs,Y,q4,q5,q6⟩
   ·exact .inl h4
   ·exact .inr ⟨b,o,cs,T,q1,q2,q3,X,vs,Y,q4,q5,q6.flat' he⟩
  | map kv =>
   obtain ⟨r,es,clock,h1,h2,h3,h4⟩:=this
   simp only[Blk.flat,Bool.and_eq_true]at he
   exact ⟨r,es,clock,h1,h2,h3.flat' he.1 he.2,h4⟩
 own n b hb k hk:=⟨fun h=>h,(M.own n b hb k hk).2⟩
 sep:=M.sep
 bound k hk:=hk.elim
end
def resA (C:Cfg) (st:St):ResultVar→Option A
 | .tmp t=>some (st.e t)
 | .cell a t=>zgX C.P (lk st.L) t (st.e a)
def zEv (C:Cfg) (st:St):List ResultVar→Option (List A)
 | []=>some []
 | r :: rs=>(resA C st r).bind fun x=>(zEv C st rs).map (x :: ·)
def one:List A→A
 | [x]=>x
 | xs=>.tup xs
def zHK (L:List (Nat × Blk)) (vs:List A):List Nat :=
 let n1:=addN [] (vs.flatMap A.names)
 let n2:=addN n1 (n1.flatMap (zri L))
 addN n2 (n2.flatMap (zri L))
def zwf (hs:List Nat) (st:St) (v:A):List Nat:=zHK st.L (v :: hs.map st.e)
def zHD (hs:List Nat) (st:St) (v:A):Bool:=(v :: hs.map st.e).all (fun x=>x.all (isIn (zwf hs st v))) && zDs (zwf hs st v) st
def zIa (hs:List Nat) (st:St) (v:A):Bool:=(v.ren (renF (zwf hs st v))).flat && hs.all fun i=>((st.e i).ren (renF (zwf hs st v))).flat
def loL (l:List (Nat × Blk)):List (Nat × Blk):=l.map fun p=>(p.1,p.2.lo)
def zFZ (hs:List Nat) (st:St) (v:A):List (Nat × Blk):=loL (zha (zwf hs st v) st (zwf hs st v))
def zEb (hs:List Nat) (st:St) (v:A) (f:Bool):CallOut :=
 {val:=v.ren (renF (zwf hs st v)),blks:=zFZ hs st v,flat:=f,roots:=hs.map fun i=>(i,(st.e i).ren (renF (zwf hs st v))) }
def zGY (C:Cfg) (rs:List ResultVar) (hs:List Nat) (st:St):Option CallOut :=
 (zEv C st rs).bind fun xs=>if zHD hs st (one xs)=true then some (zEb hs st (one xs) (!C.nf && zIa hs st (one xs) && (zFZ hs st (one xs)).all fun p=>p.2.flat))else none
theorem zzb {n:Nat}:∀ {l:List (Nat × Blk)},lk (loL l) n=(lk l n).map Blk.lo
 | []=>rfl
 | (m,b) :: l=>by
  rw[loL,List.map_cons,zaD,zaD,←loL,zzb]
  split<;>rfl
theorem zBl {β:Nat→Value} {S:Nat→Prop} {h:Array Obj} {N0:Nat} {F:Nat→Prop} {l:List (Nat × Blk)} (M:MS β S h N0 F (lk l)) :
  MS β S h N0 F (lk (loL l))∧∀ x v,RepA β S h (lk l) x v→RepA β S h (lk (loL l)) x v:=by
 have K:Keeps β β S S h h (lk l) (lk (loL l)) (fun _ _ _=>true):=by
  refine ⟨fun _ h=>h,fun _ _=>rfl,fun v n π _ blk hb=>⟨rfl,blk.lo,by rw[zzb,hb]; rfl,Blk.lo_same _ _ _⟩⟩
 have inv:∀ n b,lk (loL l) n=some b→∃ b0,lk l n=some b0∧b=b0.lo:=by
  intro n b hb
  rw[zzb]at hb
  cases h0:lk l n with
  | none=>rw[h0]at hb; cases hb
  | some b0=>rw[h0]at hb; cases hb; exact ⟨b0,rfl,rfl⟩
 refine ⟨⟨fun n b hb=>?_,fun n b hb=>?_,fun n m hne h1 h2=>?_,M.bound⟩,fun x v r=>r.mono K (A.all_true x)⟩
 ·obtain ⟨b0,h0,rfl⟩:=inv n b hb
  have:=(M.blk n b0 h0).mono K rfl (fun _ _=>rfl) (by cases b0 with | box c=>exact A.all_true c | row _ _=>rfl | map _=>rfl)
  cases b0 with
  | box c=>exact this
  | row rc ex =>
   obtain ⟨a,cap,q1,q2,_,q4⟩:=this
   exact ⟨a,cap,q1,q2,(fun e=>by cases e),q4⟩
  | map kv=>exact this
 ·obtain ⟨b0,h0,rfl⟩:=inv n b hb
  exact M.own n b0 h0
 ·refine M.sep n m hne ?_ ?_
  ·rw[zzb]at h1; cases h0:lk l n<;>rw[h0]at h1<;>first | rfl | cases h1
  ·rw[zzb]at h2; cases h0:lk l m<;>rw[h0]at h2<;>first | rfl | cases h2
def zxz:List A→Nat→List (Nat × A)
 | [],_=>[]
 | x :: xs,i=>(i,x) :: zxz xs (i+1)
section
variable {C:Cfg}
theorem zH0 {k:Wk} {β:Nat→Value} {S:Nat→Prop} {a:Act} {w:World} {st:St} (R:RlF k β S st.e (lk st.L) a w) {r:ResultVar} {x:A} (h:resA C st r=some x) :
  ∃ v,(match r with | .tmp t=>pure (a.tmps.getD t undef) | .cell b t=>do loadVar t (←asAddr (a.tmps.getD b undef)):Sem Value).run C.P w=.ok v w∧RepA β S w.heap (lk st.L) x v:=by
 cases r with
 | tmp t =>
  simp only[resA,Option.some.injEq]at h
  subst h
  exact ⟨_,rfl,R.env t⟩
 | cell b t =>
  simp only[resA]at h
  obtain ⟨u,h1,h2⟩:=zJb R.rl.mem h (R.env b)
  refine ⟨u,?_,h2⟩
  simp only[Sem.run_bind]
  generalize a.tmps.getD b undef=v at h1
  cases v with
  | pointer p =>
   cases p with
   | none=>simp[Instr.loadAt,Instr.sureAddr,Result.andThen]at h1
   | some ad=>simpa [Instr.loadAt,Instr.sureAddr,asAddr] using h1
  | _=>simp[Instr.loadAt,Instr.sureAddr,Result.andThen]at h1
theorem zzx {k:Wk} {β:Nat→Value} {S:Nat→Prop} {a:Act} {w:World} {st:St} (R:RlF k β S st.e (lk st.L) a w):∀ {rs:List ResultVar} {xs:List A},zEv C st rs=some xs →
  ∃ vs,(rs.mapM fun r=>(match r with | .tmp t=>pure (a.tmps.getD t undef) | .cell b t=>do loadVar t (←asAddr (a.tmps.getD b undef)):Sem Value)).run C.P w=.ok vs w∧RepAs β S w.heap (lk st.L) xs vs
 | [],xs,h=>by
  simp only[zEv,Option.some.injEq]at h
  subst h
  exact ⟨[],rfl,.nil⟩
 | r :: rs,xs,h=>by
  simp only[zEv,Option.bind_eq_some_iff,Option.map_eq_some_iff]at h
  obtain ⟨x,hx,ys,hys,rfl⟩:=h
  obtain ⟨v,h1,h2⟩:=zH0 R hx
  obtain ⟨vs,h3,h4⟩:=zzx R hys
  refine ⟨v :: vs,?_,.cons h2 h4⟩
  rw[List.mapM_cons,Sem.run_bind,h1]
  simp only[Result.andThen_ok,Sem.run_bind,h3,Sem.run_pure]
theorem RepAs.toT {β:Nat→Value} {S:Nat→Prop} {h:Array Obj} {L:Nat→Option Blk}:∀ {xs:List A} {vs:List Value},RepAs β S h L xs vs→RepT β S h L xs vs
 | _,_,.nil=>.nil
 | _,_,.cons ⟨us,r,e⟩ rest=>by subst e; exact .cons r rest.toT
theorem zIO {β:Nat→Value} {S:Nat→Prop} {h:Array Obj} {L:Nat→Option Blk} {xs:List A} {vs:List Value} (r:RepAs β S h L xs vs) :
  RepA β S h L (one xs) (if hh:vs.toArray.size=1 then vs.toArray[0]else .tuple vs.toArray):=by
 cases r with
 | nil=>exact ⟨_,.tup .nil,rfl⟩
 | cons a r =>
  cases r with
  | nil=>exact a
  | cons b r =>
   rename_i x v y u xs vs
   have hne:¬ (v :: u :: vs).toArray.size=1:=by simp
   rw[dif_neg hne]
   exact ⟨_,.tup (RepAs.cons a (.cons b r)).toT,rfl⟩
theorem zwV:∀ (args:List A) (i t:Nat),lk (zxz args i) t=if i≤t then args[t - i]? else none
 | [],i,t=>by simp[zxz,lk]
 | x :: xs,i,t=>by
  simp only[zxz,zaD,zwV xs (i+1) t]
  by_cases h:i=t
  ·subst h; simp
  ·rw[if_neg h]
   by_cases h2:i≤t
   ·rw[if_pos h2,if_pos (by omega)]
    have:t - i=(t - (i+1))+1:=by omega
    rw[this,List.getElem?_cons_succ]
   ·rw[if_neg h2,if_neg (by omega)]
end
end Go.Proofs.YtnolgfdjcipmmaaDoor.M
namespace Go.Proofs.YtnolgfdjcipmmaaDoor.M
open Go
abbrev Cn:=Option Prop
@[reducible] def Cn.h:Cn→Prop
 | none=>True
 | some p=>p
@[reducible] def Cn.and:Cn→Prop→Cn
 | none,p=>some p
 | some q,p=>some (q∧p)
theorem Cn.and_h {c:Cn} {p:Prop} (h:(c.and p).h):c.h∧p:=by cases c with | none=>exact ⟨trivial,h⟩ | some q=>exact h
def PV.scv (k:EK):PV→k.T
 | .sc k' x=>(EK.cast k' k x).getD k.zero
 | _=>k.zero
def zCK {k k':EK} {n n':Nat} (h:k'=k∧n'=n) (v:Vector k'.T n'):Vector k.T n:=h.1 ▸ h.2 ▸ v
def PV.vecv (k:EK) (n:Nat):PV→Vector k.T n
 | .arr k' n' v=>if h:k'=k∧n'=n then zCK h v else Vector.replicate n k.zero
 | _=>Vector.replicate n k.zero
def PV.fld (j:Nat):PV→PV
 | .st fs=>fs.getD j .nilp
 | _=>.nilp
def PV.els:PV→List PV
 | .ar _ xs=>xs
 | .sp _ xs=>xs
 | _=>[]
def zDh {k k':EK} (h:k'=k) (v:List k'.T):List k.T:=h ▸ v
def PV.slv (k:EK):PV→List k.T
 | .sl k' xs=>if h:k'=k then zDh h xs else []
 | _=>[]
inductive TY where
 | sc (k:EK) | arr (k:EK) (n:Nat) | st (fs:List TY) | ar (sz:Nat) | sl (k:EK) | sp (sz:Nat) | p
def tyOf (P:Program):Nat→TypeId→Option TY
 | 0,_=>none
 | d+1,t =>
  match P.underlying t with
  | some (.array n e)=>match ekT P e with
   | some k=>some (.arr k n)
   | none=>(szT P e).map .ar
  | some (.struct fs)=>(fs.toList.mapM fun f=>tyOf P d f.type).map .st
  | some (.slice e)=>match ekT P e with
   | some k=>some (.sl k)
   | none=>(szT P e).map .sp
  | some (.pointer _)=>some .p
  | some u=>(zpV u).map .sc
  | none=>none
mutual
def TY.eta:TY→PV→PV
 | .sc k,x=>.sc k (x.scv k)
 | .arr k n,x=>.arr k n (x.vecv k n)
 | .st fs,x=>.st (TY.etas fs x 0)
 | .ar sz,x=>.ar sz x.els
 | .sl k,x=>.sl k (x.slv k)
 | .sp sz,x=>.sp sz x.els
 | .p,_=>.nilp
def TY.etas:List TY→PV→Nat→List PV
 | [],_,_=>[]
 | t :: ts,x,j=>t.eta (x.fld j) :: TY.etas ts x (j+1)
end
mutual
def TY.chk:TY→PV→Bool
 | .sc k,.sc k' _=>decide (k'=k)
 | .arr k n,.arr k' n' _=>decide (k'=k) && Nat.beq n' n
 | .st fs,.st xs=>TY.chks fs xs
 | .ar sz,.ar sz' _=>Nat.beq sz' sz
 | .sl k,.sl k' _=>decide (k'=k)
 | .sp sz,.sp sz' _=>Nat.beq sz' sz
 | .p,.nilp=>true
 | _,_=>false
def TY.chks:List TY→List PV→Bool
 | [],[]=>true
 | t :: ts,x :: xs=>t.chk x && TY.chks ts xs
 | _,_=>false
end
theorem EK.cast_same (k:EK) (x:k.T):EK.cast k k x=some x:=by cases k<;>rfl
mutual
theorem TY.chk_eta:∀ {t:TY} {x:PV},t.chk x=true→t.eta x=x
 | .sc k,x,h=>by
  cases x<;>simp[TY.chk]at h
  subst h
  simp[TY.eta,PV.scv,EK.cast_same]
 | .arr k n,x,h=>by
  cases x<;>simp[TY.chk]at h
  obtain ⟨rfl,h⟩:=h
  subst h
  simp[TY.eta,PV.vecv,zCK]
 | .st fs,x,h=>by
  cases x with
  | st xs =>
   simp only[TY.chk]at h
   simp only[TY.eta]
   exact congrArg PV.st (TY.chks_etas (xs:=xs) (pre:=[]) h rfl)
  | _=>simp[TY.chk]at h
 | .ar sz,x,h=>by
  cases x<;>simp[TY.chk]at h
  subst h; rfl
 | .sl k,x,h=>by
  cases x<;>simp[TY.chk]at h
  subst h
  simp[TY.eta,PV.slv,zDh]
 | .sp sz,x,h=>by
  cases x<;>simp[TY.chk]at h
  subst h; rfl
 | .p,x,h=>by
  cases x<;>simp[TY.chk]at h
  rfl
theorem TY.chks_etas:∀ {ts:List TY} {xs pre:List PV},TY.chks ts xs=true→∀ {j:Nat},pre.length=j→TY.etas ts (.st (pre++xs)) j=xs
 | [],xs,pre,h,j,hj=>by
  cases xs with
  | nil=>rfl
  | cons _ _=>simp[TY.chks]at h
 | t :: ts,xs,pre,h,j,hj=>by
  cases xs with
  | nil=>simp[TY.chks]at h
  | cons x xs =>
   simp only[TY.chks,Bool.and_eq_true]at h
   simp only[TY.etas]
   have e:(PV.st (pre++x :: xs)).fld j=x:=by
    subst hj
    simp[PV.fld,List.getD]
   rw[e,TY.chk_eta h.1]
   have:=TY.chks_etas (pre:=pre++[x]) h.2 (j:=j+1) (by simp[hj])
   rw[List.append_assoc,List.singleton_append]at this
   rw[this]
end
def binW (op:BinOp) (x y:PV):Option (Cn × PV) :=
 match op,x,y with
 | .quo,.sc .u8 x,.sc .u8 y=>some (some (y≠0),.sc .u8 (x / y)) | .rem,.sc .u8 x,.sc .u8 y=>some (some (y≠0),.sc .u8 (x % y))
 | .quo,.sc .u16 x,.sc .u16 y=>some (some (y≠0),.sc .u16 (x / y)) | .rem,.sc .u16 x,.sc .u16 y=>some (some (y≠0),.sc .u16 (x % y))
 | .quo,.sc .u32 x,.sc .u32 y=>some (some (y≠0),.sc .u32 (x / y)) | .rem,.sc .u32 x,.sc .u32 y=>some (some (y≠0),.sc .u32 (x % y))
 | .quo,.sc .u64 x,.sc .u64 y=>some (some (y≠0),.sc .u64 (x / y)) | .rem,.sc .u64 x,.sc .u64 y=>some (some (y≠0),.sc .u64 (x % y))
 | .quo,.sc .i x,.sc .i y=>some (some (y≠(0:Int)),.sc .i (w64 (Int.tdiv x y))) | .rem,.sc .i x,.sc .i y=>some (some (y≠(0:Int)),.sc .i (Int.tmod x y))
 | .shl,x,.sc .i c=>(zfh true x (Int.toNat c)).map fun r=>(some ((0:Int)≤c),r)
 | .shr,x,.sc .i c=>(zfh false x (Int.toNat c)).map fun r=>(some ((0:Int)≤c),r)
 | op,x,y=>(zuk op x y).map fun r=>(none,r)
theorem zD9 {op:BinOp} {x y r:PV} {p:Cn} (h:binW op x y=some (p,r)) (hp:p.h):zuk op x y=some r:=by
 unfold binW at h
 split at h<;>first
  | (simp only[Option.some.injEq,Prod.mk.injEq]at h; obtain ⟨rfl,rfl⟩:=h; simp only[zuk,zp4,zkX,zkB,zlj,zFq]; exact if_neg hp)
  | (simp only[Option.map_eq_some_iff,Prod.mk.injEq]at h; obtain ⟨q,h1,rfl,rfl⟩:=h; simp only[zuk,cnt]; rw[if_pos hp]; exact h1)
  | (simp only[Option.map_eq_some_iff,Prod.mk.injEq]at h; obtain ⟨q,h1,rfl,rfl⟩:=h; exact h1)
def zjQ (len:Nat) (cap:Option Nat) (lo hi mx:Option Int):Option (Cn × Nat × Nat × Option Nat) :=
 match mx with
 | none=>some (some (0≤lo.getD 0∧lo.getD 0≤hi.getD (len:Int)∧hi.getD (len:Int)≤((cap.getD len:Nat):Int)),(lo.getD 0).toNat,(hi.getD (len:Int)).toNat,cap)
 | some m=>match hi with
  | some h=>some (some (0≤lo.getD 0∧lo.getD 0≤h∧h≤m∧m≤((cap.getD len:Nat):Int)),(lo.getD 0).toNat,h.toNat,some m.toNat)
  | none=>none
theorem ziH {len:Nat} {cap:Option Nat} {lo hi mx:Option Int} {p:Cn} {r:Nat × Nat × Option Nat} (h:zjQ len cap lo hi mx=some (p,r)) (hp:p.h):zlY len cap lo hi mx=some r:=by
 unfold zjQ at h
 unfold zlY
 split at h
 ·simp only[Option.some.injEq,Prod.mk.injEq]at h
  obtain ⟨rfl,rfl⟩:=h
  exact if_pos hp
 ·split at h
  ·simp only[Option.some.injEq,Prod.mk.injEq]at h
   obtain ⟨rfl,rfl⟩:=h
   exact if_pos hp
  ·cases h
section
variable (P:Program)
def zkU (L:Nat→Option Blk) (t:TypeId) (x:A) (j:Int):Option (Cn × A) :=
 (zdj P t).bind fun e=>(szT P e).bind fun s =>
 match x with
 | .p n π=>(L n).bind fun b=>match b,π with
  | .row (.p sz xs) _,.i i :: π'=>match P.underlying t with
   | some (.array N _)=>bif Nat.beq s 1 then some (some ((0≤j∧j < N)∧M.arrLen (.pv (RC.get (.p sz xs) (.i i :: π')))=some (N,1)),.p n (.i i :: π' ++ [.i j.toNat]))else none
   | _=>none
  | b,π=>match P.underlying t,arrLen (b.get π) with
   | some (.array N _),some (N',sz)=>if Nat.beq N N' && Nat.beq s sz then some (some (0≤j∧j < N),.p n (π++[.i j.toNat]))else none
   | _,_=>none
 | .rp (.arr k n v)=>match P.underlying t with
  | some (.array N _)=>if Nat.beq N n && Nat.beq s 1 then some (some (0≤j∧j < N),.rp (.sc k (v.toList.getD j.toNat k.zero)))else none
  | _=>none
 | .rp (.ar sz xs)=>match P.underlying t with
  | some (.array N _)=>if Nat.beq s sz then(tyOf P 8 e).map fun ty=>(some ((xs.length=N∧0≤j∧j < N)∧ty.chk (xs.getD j.toNat .nilp)=true),.rp (ty.eta (xs.getD j.toNat .nilp)))else none
  | _=>none
 | .o n=>(L n).bind fun b=>match P.underlying t,b with
  | some (.slice _),.row rc _=>if Nat.beq s rc.sz then some (some (0≤j∧j < rc.len),.p n [.i j.toNat])else none
  | _,_=>none
 | .vw n π off len _=>(L n).bind fun b=>match P.underlying t,b.arrLen π with
  | some (.slice _),some (_,sz)=>if Nat.beq s sz then some (some (0≤j∧j < len),.p n (π++[.i (off+j.toNat)]))else none
  | _,_=>none
 | .pv (.sl k xs)=>match P.underlying t with
  | some (.slice _)=>if Nat.beq s 1 then some (some (0≤j∧j < xs.length),.rp (.sc k (xs.getD j.toNat k.zero)))else none
  | _=>none
 | .pv (.sp sz xs)=>match P.underlying t with
  | some (.slice _)=>if Nat.beq s sz then(tyOf P 8 e).map fun ty=>(some ((0≤j∧j < xs.length)∧ty.chk (xs.getD j.toNat .nilp)=true),.rp (ty.eta (xs.getD j.toNat .nilp)))else none
  | _=>none
 | _=>none
def zrk (L:Nat→Option Blk) (t:TypeId) (x:A) (lo hi mx:Option Int):Option (Cn × A) :=
 (zdj P t).bind fun e=>(szT P e).bind fun s =>
 match x with
 | .p n π=>(L n).bind fun b=>match P.underlying t,arrLen (b.get π) with
  | some (.array N _),some (N',sz)=>if Nat.beq N N' && Nat.beq s sz then
    (zjQ N (some N) lo hi mx).map fun(p,l,h,m)=>(p,.vw n π l (h - l) (m.map (· - l)))else none
  | _,_=>none
 | .rp (.arr k n v)=>match P.underlying t with
  | some (.array N _)=>if Nat.beq N n && Nat.beq s 1 then(zjQ N (some N) lo hi mx).map fun(p,l,h,_)=>(p,.pv (.sl k ((v.toList.drop l).take (h - l))))else none
  | _=>none
 | .o n=>(L n).bind fun b=>match P.underlying t,b with
  | some (.slice _),.row rc ex=>if Nat.beq s rc.sz then
    (zjQ rc.len (bif ex then some rc.len else none) lo hi mx).map fun(p,l,h,m)=>(p,.vw n [] l (h - l) (m.map (· - l)))else none
  | _,_=>none
 | .vw n π off len cap=>(L n).bind fun b=>match P.underlying t,b.arrLen π with
  | some (.slice _),some (_,sz)=>if Nat.beq s sz then
    (zjQ len cap lo hi mx).map fun(p,l,h,m)=>(p,.vw n π (off+l) (h - l) (m.map (· - l)))else none
  | _,_=>none
 | .pv (.sl k xs)=>match P.underlying t with
  | some (.slice _)=>if Nat.beq s 1 then(zjQ xs.length none lo hi mx).map fun(p,l,h,_)=>(p,.pv (.sl k ((xs.drop l).take (h - l))))else none
  | _=>none
 | .pv (.sp sz xs)=>match P.underlying t with
  | some (.slice _)=>if Nat.beq s sz then(zjQ xs.length none lo hi mx).map fun(p,l,h,_)=>(p,.pv (.sp sz ((xs.drop l).take (h - l))))else none
  | _=>none
 | _=>none
def zGB (L:Nat→Option Blk) (t:TypeId) (x:A):Option (Cn × A) :=
 match P.underlying t with
 | some (.array n e)=>(szT P e).bind fun s=>match x with
  | .pv (.sl k xs)=>if Nat.beq s 1 then some (some (n≤xs.length∧0 < n),.rp ((RC.s k xs).arr 0 n))else none
  | .vw m π off len _=>(L m).bind fun b=>match b.arrLen π with
   | some (_,sz)=>if Nat.beq s sz then some (some (n≤len∧0 < n),.pr m π off n)else none
   | none=>none
  | .o m=>(L m).bind fun b=>match b with
   | .row rc _=>if Nat.beq s rc.sz then some (some (n≤rc.len∧0 < n),.pr m [] 0 n)else none
   | _=>none
  | _=>none
 | _=>none
end
section
variable {P:Program} {L:Nat→Option Blk}
theorem zn5 {t:TypeId} {x r:A} {j:Int} {p:Cn} (h:zkU P L t x j=some (p,r)) (hp:p.h):zcr P L t x j=some r:=by
 unfold zkU at h
 unfold zcr
 simp only[Option.bind_eq_some_iff]at h ⊢
 obtain ⟨e,he,s,hs,h⟩:=h
 refine ⟨e,he,s,hs,?_⟩
 split at h
 ·rename_i n π
  obtain ⟨b,hb,h⟩:=Option.bind_eq_some_iff.1 h
  refine Option.bind_eq_some_iff.2 ⟨b,hb,?_⟩
  split at h
  ·rename_i sz xs ex i π' x0
   split at h
   ·rename_i N e' hu
    cases hs1:Nat.beq s 1 with
    | false=>rw[hs1]at h; cases h
    | true =>
    rw[hs1,cond_true]at h
    have hs1:s=1:=nbeq.1 hs1
    subst hs1
    cases h
    obtain ⟨h1,h2⟩:(0≤j∧j < N)∧M.arrLen (.pv (RC.get (.p sz xs) (.i i :: π')))=some (N,1):=hp
    have h3:M.arrLen (Blk.get (.row (.p sz xs) ex) (.i i :: π'))=some (N,1):=h2
    rw[hu,h3]
    simp only[Nat.beq_refl,Bool.and_self,if_true]
    rw[if_pos h1]
   ·cases h
  ·(split at h<;>first | (cases h; done) | (split at h<;>first | (cases h; done) | (simp only[Option.some.injEq,Prod.mk.injEq]at h; obtain ⟨rfl,rfl⟩:=h; simp_all [Cn.h])))
 all_goals first
  | (cases h; done)
  | (simp only[Option.bind_eq_some_iff]at h ⊢; obtain ⟨b,hb,h⟩:=h; refine ⟨b,hb,?_⟩; (split at h<;>first | (cases h; done) | (split at h<;>first | (cases h; done) | (simp only[Option.some.injEq,Prod.mk.injEq]at h; obtain ⟨rfl,rfl⟩:=h; simp_all [Cn.h]))))
  | (split at h<;>first | (cases h; done) | (split at h<;>first | (cases h; done) | (simp only[Option.some.injEq,Prod.mk.injEq]at h; obtain ⟨rfl,rfl⟩:=h; simp_all [Cn.h]; done) | (simp only[Option.map_eq_some_iff,Prod.mk.injEq]at h; obtain ⟨ty,_,rfl,rfl⟩:=h; rename_i heq hc _; simp only[heq]; rw[if_pos hc,if_pos hp.1,TY.chk_eta hp.2])))
theorem zl1 {t:TypeId} {x r:A} {lo hi mx:Option Int} {p:Cn} (h:zrk P L t x lo hi mx=some (p,r)) (hp:p.h):zfu P L t x lo hi mx=some r:=by
 unfold zrk at h
 unfold zfu
 simp only[Option.bind_eq_some_iff]at h ⊢
 obtain ⟨e,he,s,hs,h⟩:=h
 refine ⟨e,he,s,hs,?_⟩
 split at h<;>first
  | (cases h; done)
  | (simp only[Option.bind_eq_some_iff]at h ⊢; obtain ⟨b,hb,h⟩:=h; refine ⟨b,hb,?_⟩; (split at h<;>first | (cases h; done) | (split at h<;>first | (cases h; done) | (simp only[Option.map_eq_some_iff,Prod.mk.injEq]at h; obtain ⟨⟨q,l,u,m⟩,h1,rfl,rfl⟩:=h; have h2:=ziH h1 hp; simp_all [Cn.h]))))
  | (split at h<;>first | (cases h; done) | (split at h<;>first | (cases h; done) | (simp only[Option.map_eq_some_iff,Prod.mk.injEq]at h; obtain ⟨⟨q,l,u,m⟩,h1,rfl,rfl⟩:=h; have h2:=ziH h1 hp; simp_all [Cn.h])))
theorem zyE {t:TypeId} {x r:A} {p:Cn} (h:zGB P L t x=some (p,r)) (hp:p.h):zs2 P L t x=some r:=by
 unfold zGB at h
 unfold zs2
 split at h
 ·rename_i n e hu
  rw[hu]
  obtain ⟨s,hs,h⟩:=Option.bind_eq_some_iff.1 h
  refine Option.bind_eq_some_iff.2 ⟨s,hs,?_⟩
  split at h<;>first
   | (cases h; done)
   | (obtain ⟨b,hb,h⟩:=Option.bind_eq_some_iff.1 h; refine Option.bind_eq_some_iff.2 ⟨b,hb,?_⟩; (split at h<;>first | (cases h; done) | (split at h<;>first | (cases h; done) | (simp only[Option.some.injEq,Prod.mk.injEq]at h; obtain ⟨rfl,rfl⟩:=h; simp_all [Cn.h]))))
   | (split at h<;>first | (cases h; done) | (simp only[Option.some.injEq,Prod.mk.injEq]at h; obtain ⟨rfl,rfl⟩:=h; simp_all [Cn.h]))
 ·cases h
def zll (P:Program) (L:Nat→Option Blk) (d:Nat) (t:TypeId) (l c:Int) (ex:Bool):Option (Cn × Out) :=
 match P.underlying t with
 | some (.slice e)=>(zo1 P e l.toNat).bind fun rc=>(zfC L d (.row rc ex) (.o d)).map fun o=>(some (0≤l∧l≤c∧c*(zmc P e:Int)≤(room:Int)∧c≤2 ^ 62),o)
 | _=>none
theorem zoN {d:Nat} {t:TypeId} {l c:Int} {ex:Bool} {o:Out} {p:Cn} (h:zll P L d t l c ex=some (p,o)) (hp:p.h):zdI P L d t l c ex=some o:=by
 unfold zll at h
 unfold zdI
 split at h
 ·simp only[Option.bind_eq_some_iff,Option.map_eq_some_iff,Prod.mk.injEq]at h
  rename_i e hu
  obtain ⟨rc,h1,o',h2,rfl,rfl⟩:=h
  rw[hu]
  refine (if_pos hp).trans ?_
  exact Option.bind_eq_some_iff.2 ⟨rc,h1,h2⟩
 ·cases h
end
end Go.Proofs.YtnolgfdjcipmmaaDoor.M
namespace Go.Proofs.YtnolgfdjcipmmaaDoor.M
open Go
def zrM (P:Program) (L:Nat→Option Blk) (e:TypeId) (zeros:Bool) (y:A):Option (Cn × RC) :=
 bif zeros then y.idx.bind fun n=>(zo1 P e n.toNat).map fun rc=>(some (0≤n∧n≤2 ^ 62),rc)
 else(ze0 L y).map fun rc=>(none,rc)
def znW (P:Program) (L:Nat→Option Blk) (d:Nat) (t t1:TypeId) (nilc:Bool) (x y:A):Option (Cn × Out) :=
 match P.underlying t with
 | some (.slice e)=>(zrL P t1).bind fun zeros=>(bif nilc then zgs P e else ze0 L x).bind fun rx=>(zrM P L e zeros y).bind fun py=>(rx.app py.2).bind fun r =>
  if szT P e == some r.sz && Nat.blt 0 r.sz && Nat.beq rx.sz r.sz && (zoE P e).isSome then
   bif nilc then(zfC L d (.row r false) (.o d)).map fun o=>(py.1.and (r.len*zmc P e≤room∧r.len≤room),o) else
   match x,L d with
   | .o n,none=>some (py.1.and (r.len*zmc P e≤room∧r.len≤room),{ val:=.o d,upd:=[(d,.row r false)],cut:=[(n,none)] })
   | .vw _ _ _ len (some c),none=>some (py.1.and ((r.len*zmc P e≤room∧r.len≤room)∧len=c∧0 < py.2.len),{ val:=.o d,upd:=[(d,.row r false)] })
   | _,_=>none
  else none
 | _=>none
section
variable {P:Program} {L:Nat→Option Blk}
theorem zg9 {e:TypeId} {z:Bool} {y:A} {p:Cn} {rc:RC} (h:zrM P L e z y=some (p,rc)) (hp:p.h):zhL P L e z y=some rc:=by
 unfold zrM at h
 unfold zhL
 cases z with
 | true =>
  simp only[cond_true,Option.bind_eq_some_iff,Option.map_eq_some_iff,Prod.mk.injEq]at h ⊢
  obtain ⟨n,hn,rc',h1,rfl,rfl⟩:=h
  exact ⟨n,hn,by rw[if_pos hp]; exact h1⟩
 | false =>
  simp only[cond_false,Option.map_eq_some_iff,Prod.mk.injEq]at h ⊢
  obtain ⟨rc',h1,_,rfl⟩:=h
  exact h1
theorem zkp {d:Nat} {t t1:TypeId} {nilc:Bool} {x y:A} {p:Cn} {o:Out} (h:znW P L d t t1 nilc x y=some (p,o)) (hp:p.h):zeV P L d t t1 nilc x y=some o:=by
 unfold znW at h
 unfold zeV
 split at h
 ·rename_i e hu
  rw[hu]
  simp only[Option.bind_eq_some_iff]at h ⊢
  obtain ⟨zs,h1,rx,h2,⟨pa,ry⟩,h3,r,h4,h⟩:=h
  split at h
  ·rename_i hc
   cases nilc with
   | true =>
    simp only[cond_true,Option.map_eq_some_iff,Prod.mk.injEq]at h
    obtain ⟨o',h5,rfl,rfl⟩:=h
    exact ⟨zs,h1,rx,h2,ry,zg9 h3 (Cn.and_h hp).1,r,h4,by rw[if_pos hc,if_pos (Cn.and_h hp).2]; exact h5⟩
   | false =>
    simp only[cond_false]at h
    split at h
    ·rename_i n hd
     simp only[Option.some.injEq,Prod.mk.injEq]at h
     obtain ⟨rfl,rfl⟩:=h
     exact ⟨zs,h1,rx,h2,ry,zg9 h3 (Cn.and_h hp).1,r,h4,by rw[if_pos hc,if_pos (Cn.and_h hp).2]; simp only[cond_false,hd]⟩
    ·rename_i n π off len c hd
     simp only[Option.some.injEq,Prod.mk.injEq]at h
     obtain ⟨rfl,rfl⟩:=h
     exact ⟨zs,h1,rx,h2,ry,zg9 h3 (Cn.and_h hp).1,r,h4,by rw[if_pos hc,if_pos (Cn.and_h hp).2.1]; simp only[cond_false,hd]; exact if_pos (Cn.and_h hp).2.2⟩
    ·cases h
  ·cases h
 ·cases h
end
end Go.Proofs.YtnolgfdjcipmmaaDoor.M
namespace Go.Proofs.YtnolgfdjcipmmaaDoor.M
open Go
def PV.thru:PV→List PE→Bool
 | .st fs,.f j :: π=>PV.thru (fs.getD j .nilp) π
 | .ar _ _,.i _ :: _=>true
 | _,_=>false
def A.thru:A→List PE→Bool
 | .pv x,π=>x.thru π
 | .st fs,.f j :: π=>A.thru (fs.getD j .bad) π
 | _,_=>false
def Blk.thru:Blk→List PE→Bool
 | .box c,π=>c.thru π
 | .row (.p _ _) _,.i _ :: _=>true
 | _,_=>false
def zBo (P:Program) (L:Nat→Option Blk) (t:TypeId) (x:A):Option (Cn × A) :=
 match x with
 | .p n π=>(L n).bind fun b=>bif b.thru π then(match b.get π with
   | .pv y=>(tyOf P 8 t).bind fun ty=>if fits P t (.pv (ty.eta y))then some (some (ty.chk y=true),.pv (ty.eta y))else none
   | _=>none)
  else if fits P t (b.get π)then some (none,b.get π)else none
 | x=>(zgX P L t x).map fun r=>(none,r)
theorem zyf {P:Program} {L:Nat→Option Blk} {t:TypeId} {x y:A} {p:Cn} (h:zBo P L t x=some (p,y)) (hp:p.h):zgX P L t x=some y:=by
 unfold zBo at h
 split at h
 ·rename_i n π
  simp only[Option.bind_eq_some_iff]at h
  obtain ⟨b,hb,h⟩:=h
  simp only[zgX,hb,Option.bind_some]
  cases hth:b.thru π with
  | true =>
   rw[hth]at h
   simp only[cond_true]at h
   split at h
   ·rename_i z hz
    simp only[Option.bind_eq_some_iff]at h
    obtain ⟨ty,_,h⟩:=h
    split at h
    ·rename_i hf
     simp only[Option.some.injEq,Prod.mk.injEq]at h
     obtain ⟨rfl,rfl⟩:=h
     have hp:ty.eta z=z:=TY.chk_eta hp
     rw[hp]at hf ⊢
     rw[hz,if_pos hf]
    ·cases h
   ·cases h
  | false =>
   rw[hth]at h
   simp only[cond_false]at h
   split at h
   ·rename_i hf
    simp only[Option.some.injEq,Prod.mk.injEq]at h
    obtain ⟨rfl,rfl⟩:=h
    exact if_pos hf
   ·cases h
 ·simp only[Option.map_eq_some_iff,Prod.mk.injEq]at h
  obtain ⟨r,h1,_,rfl⟩:=h
  exact h1
def zwU (P:Program) (t:TypeId) (x:A) (j:Int):Option (Cn × A) :=
 match x,P.underlying t with
 | .pv (.arr k n v),some (.array N e)=>if Nat.beq n N && szT P e == some 1 && aggT P e == false && (P.underlying e).isSome then some (some (0≤j∧j < N),.pv (.sc k (v.toList.getD j.toNat k.zero)))else none
 | .pv (.ar sz xs),some (.array N e)=>(tyOf P 8 e).bind fun ty=>if szT P e == some sz && (aggT P e == (ty.eta (xs.getD j.toNat .nilp)).isAgg && (P.underlying e).isSome) then
   some (some ((xs.length=N∧0≤j∧j < N)∧ty.chk (xs.getD j.toNat .nilp)=true),.pv (ty.eta (xs.getD j.toNat .nilp)))else none
 | _,_=>none
theorem ztP {P:Program} {t:TypeId} {x y:A} {j:Int} {p:Cn} (h:zwU P t x j=some (p,y)) (hp:p.h):zsp P t x j=some y:=by
 unfold zwU at h
 unfold zsp
 split at h
 ·rename_i k n v N e hu
  rw[hu]
  split at h
  ·rename_i hc
   simp only[Option.some.injEq,Prod.mk.injEq]at h
   obtain ⟨rfl,rfl⟩:=h
   simp only
   rw[if_pos hc]; exact if_pos hp
  ·cases h
 ·rename_i sz xs N e hu
  rw[hu]
  simp only[Option.bind_eq_some_iff]at h
  obtain ⟨ty,_,h⟩:=h
  split at h
  ·rename_i hc
   simp only[Option.some.injEq,Prod.mk.injEq]at h
   obtain ⟨rfl,rfl⟩:=h
   rw[Bool.and_eq_true]at hc
   have h2:=TY.chk_eta hp.2
   have h3:=hc.2
   rw[h2]at h3
   simp only
   rw[if_pos hc.1,if_pos hp.1,if_pos h3,h2]
  ·cases h
 ·cases h
end Go.Proofs.YtnolgfdjcipmmaaDoor.M
namespace Go.Proofs.YtnolgfdjcipmmaaDoor.M
open Go
def tru {α:Type} (x:Option α):Option (Cn × α):=x.map fun r=>(none,r)
def vals (x:Option (Cn × A)):Option (Cn × Out):=x.map fun r=>(r.1,{ val:=r.2 })
def zHs (P:Program) (op:BinOp) (t:TypeId) (x y:A):Option (Cn × A) :=
 match op,x,y with
 | .quo,.pv a,.pv b=>(binW .quo a b).map fun q=>(q.1,.pv q.2)
 | .rem,.pv a,.pv b=>(binW .rem a b).map fun q=>(q.1,.pv q.2)
 | .shl,.pv a,.pv b=>(binW .shl a b).map fun q=>(q.1,.pv q.2)
 | .shr,.pv a,.pv b=>(binW .shr a b).map fun q=>(q.1,.pv q.2)
 | op,x,y=>tru (zEw P op t x y)
def zyK (sz:Nat) (xs:List PV) (ex:Bool) (j:Nat) (π:List PE) (v:PV):Cn × Blk :=
 match π with
 | []=>(some ((xs.getD j .nilp).size=v.size),.row (.p sz (xs.set j v)) ex)
 | q :: π=>(some ((PV.get (xs.getD j .nilp) (q :: π)).size=v.size∧(PV.set (xs.getD j .nilp) (q :: π) v).isSome=true),.row (.p sz (xs.set j ((PV.set (xs.getD j .nilp) (q :: π) v).getD .nilp))) ex)
def zya (P:Program) (L:Nat→Option Blk) (t:TypeId) (a y:A):Option (Cn × Out) :=
 match a with
 | .p n π=>(L n).bind fun b=>match b,π,y with
  | .row (.p sz xs) ex,.i j :: π,.pv v=>bif fits P t (.pv v)then some ((zyK sz xs ex j π v).1,{ val:=.und,upd:=[(n,(zyK sz xs ex j π v).2)],cut:=[(n,some (.i j :: π))] })else none
  | _,π,y=>tru (zgj P L t (.p n π) y)
 | a=>tru (zgj P L t a y)
def zsy (P:Program) (L:Nat→Option Blk) (t:TypeId) (x:A) (lo hi mx:Option Int):Option (Cn × A) :=
 match x with
 | .p n π=>(L n).bind fun b=>bif b.thru π then(match P.underlying t,b.get π with
   | some (.array N e),.pv y=>(ekT P e).bind fun k=>if szT P e == some 1 then(zjQ N (some N) lo hi mx).map fun r=>(some ((TY.arr k N).chk y=true∧r.1.h),.vw n π r.2.1 (r.2.2.1 - r.2.1) (r.2.2.2.map (· - r.2.1)))else none
   | _,_=>none)
  else zrk P L t (.p n π) lo hi mx
 | x=>zrk P L t x lo hi mx
def ziT (P:Program) (L:Nat→Option Blk) (t:TypeId) (x:A) (f:Nat):Option (Cn × A) :=
 match x with
 | .p n π=>(L n).bind fun b=>bif b.thru π then(match P.underlying t,b.get π with
   | some (.struct fs),.pv y=>match fs[f]? with
    | some fd=>(tyOf P 8 t).bind fun ty=>match ty.eta y with
     | .st xs=>if Nat.blt f xs.length && Nat.beq fd.offset (PV.sizeL (xs.take f)) && (szT P fd.type).any (Nat.blt 0)then some (some (ty.chk y=true),.p n (π++[.f f]))else none
     | _=>none
    | none=>none
   | _,_=>none)
  else tru (zbS P L t (.p n π) f)
 | x=>tru (zbS P L t x f)
def zBA (P:Program) (L:Nat→Option Blk) (t:TypeId) (x y:A):Option (Cn × Out) :=
 match x with
 | .vw n [.i j] off len (some c)=>(L n).bind fun b=>match b with
  | .row (.p sz xs) ex=>(match P.underlying t with
   | some (.slice e)=>(ekT P e).bind fun k=>if szT P e == some 1 then(ze0 L y).bind fun ry=>((RC.s k (PV.vecv k (off+c) (xs.getD j .nilp)).toList).over off (min ry.len len) ry).map fun r =>
     (some ((TY.arr k (off+c)).chk (xs.getD j .nilp)=true),{ val:=intA (min ry.len len),upd:=[(n,.row (.p sz (xs.set j (r.arr 0 (off+c)))) ex)],cut:=[(n,some [.i j])] })else none
   | _=>none)
  | _=>tru (zl2 P L t (.vw n [.i j] off len (some c)) y)
 | x=>tru (zl2 P L t x y)
def zy6 (P:Program) (L:Nat→Option Blk) (d:Nat) (ρ:Operand→A) (o:Oper):Option (Cn × Out) :=
 match o.op with
 | .store t x y=>zya P L t (ρ x) (ρ y)
 | .load t x=>vals (zBo P L t (ρ x))
 | .binOp op t x y _=>vals (zHs P op t (ρ x) (ρ y))
 | .sliceToArrayPointer t x=>vals (zGB P L t (ρ x))
 | .makeSlice t l c=>(ρ l).idx.bind fun li=>(ρ c).idx.bind fun ci=>zll P L d t li ci (zDO l c)
 | .slice t x lo hi mx=>(idxO ρ lo).bind fun l=>(idxO ρ hi).bind fun h=>(idxO ρ mx).bind fun m=>vals (zsy P L t (ρ x) l h m)
 | .indexAddr t x i=>(ρ i).idx.bind fun j=>vals (zkU P L t (ρ x) j)
 | .index t x i=>(ρ i).idx.bind fun j=>vals (zwU P t (ρ x) j)
 | .fieldAddr t x f=>vals (ziT P L t (ρ x) f)
 | .call c=>match c.callee,c.args.toList,c.argTypes.toList with
  | .builtin .append,[x,y],[t,t1]=>znW P L d t t1 (zcd x) (ρ x) (ρ y)
  | .builtin .copy,[x,y],[t,_]=>zBA P L t (ρ x) (ρ y)
  | _,_,_=>tru (zbt P L d ρ o)
 | _=>tru (zbt P L d ρ o)
theorem zeQ {α:Type} {x:Option α} {p:Cn} {r:α} (h:tru x=some (p,r)):x=some r:=by
 simp only[tru,Option.map_eq_some_iff,Prod.mk.injEq]at h
 obtain ⟨_,h1,_,rfl⟩:=h
 exact h1
theorem zfd {x:Option (Cn × A)} {y:Option A} {p:Cn} {o:Out} (h:vals x=some (p,o)) (hp:p.h) (hs:∀ q r,x=some (q,r)→q.h→y=some r):(y.map fun r=>({ val:=r }:Out))=some o:=by
 simp only[vals,Option.map_eq_some_iff,Prod.mk.injEq]at h
 obtain ⟨⟨q,r⟩,h1,rfl,rfl⟩:=h
 rw[hs q r h1 hp]; rfl
theorem zAv {P:Program} {op:BinOp} {t:TypeId} {x y r:A} {p:Cn} (h:zHs P op t x y=some (p,r)) (hp:p.h):zEw P op t x y=some r:=by
 unfold zHs at h
 split at h<;>first
  | (simp only[Option.map_eq_some_iff,Prod.mk.injEq]at h; obtain ⟨⟨q,s⟩,h1,rfl,rfl⟩:=h; simp only[zEw,zD9 h1 hp]; rfl)
  | exact zeQ h
theorem zyA {sz:Nat} {xs:List PV} {ex:Bool} {j:Nat} {π:List PE} {v:PV} (h:(zyK sz xs ex j π v).1.h) :
  (Blk.get (.row (.p sz xs) ex) (.i j :: π)).size=(A.pv v).size∧Blk.set (.row (.p sz xs) ex) (.i j :: π) (.pv v)=some (zyK sz xs ex j π v).2:=by
 cases π with
 | nil =>
  have h:(xs.getD j .nilp).size=v.size:=h
  refine ⟨?_,?_⟩
  ·show (PV.get (xs.getD j .nilp) []).size=v.size
   rw[PV.get_nil]; exact h
  ·show ((PV.set (xs.getD j .nilp) [] v).map fun z=>RC.p sz (xs.set j z)).map (Blk.row · ex)=_
   have:PV.set (xs.getD j .nilp) [] v=some v:=by cases xs.getD j .nilp<;>rfl
   rw[this]; rfl
 | cons q π =>
  obtain ⟨h1,h2⟩:(PV.get (xs.getD j .nilp) (q :: π)).size=v.size∧(PV.set (xs.getD j .nilp) (q :: π) v).isSome=true:=h
  refine ⟨h1,?_⟩
  show ((PV.set (xs.getD j .nilp) (q :: π) v).map fun z=>RC.p sz (xs.set j z)).map (Blk.row · ex)=_
  obtain ⟨z,hz⟩:=Option.isSome_iff_exists.1 h2
  simp only[zyK,hz,Option.map_some,Option.getD_some]
theorem zuN {P:Program} {L:Nat→Option Blk} {t:TypeId} {a y:A} {p:Cn} {out:Out} (h:zya P L t a y=some (p,out)) (hp:p.h):zgj P L t a y=some out:=by
 unfold zya at h
 split at h
 ·rename_i n π
  obtain ⟨b,hb,h1⟩:=Option.bind_eq_some_iff.1 h
  split at h1
  ·rename_i sz xs ex j π v
   cases hf:fits P t (.pv v) with
   | false=>rw[hf]at h1; cases h1
   | true =>
    rw[hf]at h1
    cases h1
    obtain ⟨q1,q2⟩:=zyA hp
    simp only[zgj,hb,Option.bind_some]
    rw[q2,hf,q1]
    simp[A.storable,A.isPlain]
  ·exact zeQ h1
 ·exact zeQ h
theorem zvg {k:EK} {n:Nat} {x:PV} (h:(TY.arr k n).chk x=true):x=.arr k n (x.vecv k n):=(TY.chk_eta h).symm
theorem zsA {P:Program} {L:Nat→Option Blk} {t:TypeId} {x r:A} {lo hi mx:Option Int} {p:Cn} (h:zsy P L t x lo hi mx=some (p,r)) (hp:p.h):zfu P L t x lo hi mx=some r:=by
 unfold zsy at h
 split at h
 ·rename_i n π
  obtain ⟨b,hb,h⟩:=Option.bind_eq_some_iff.1 h
  cases hth:b.thru π with
  | false =>
   rw[hth]at h
   exact zl1 h hp
  | true =>
   rw[hth]at h
   simp only[cond_true]at h
   split at h
   ·rename_i N e y hu hy
    obtain ⟨k,hk,h⟩:=Option.bind_eq_some_iff.1 h
    split at h
    ·rename_i hs
     obtain ⟨⟨p1,l1,h1,m1⟩,hb1,h2⟩:=Option.map_eq_some_iff.1 h
     cases h2
     have hp:(TY.arr k N).chk y=true∧p1.h:=hp
     have hs:szT P e=some 1:=by simpa using hs
     have hbd:=ziH hb1 hp.2
     have hy2:=zvg hp.1
     unfold zfu
     have he:zdj P t=some e:=by unfold zdj; rw[hu]
     rw[he,Option.bind_some,hs,Option.bind_some]
     simp only[hb,Option.bind_some,hu,hy]
     rw[hy2]
     simp only[arrLen,show Nat.beq N N=true from Nat.beq_refl N,show Nat.beq 1 1=true from rfl,Bool.and_self,if_true,hbd,Option.map_some]
    ·cases h
   ·cases h
 ·exact zl1 h hp
theorem znc {P:Program} {L:Nat→Option Blk} {t:TypeId} {x r:A} {f:Nat} {p:Cn} (h:ziT P L t x f=some (p,r)) (hp:p.h):zbS P L t x f=some r:=by
 unfold ziT at h
 split at h
 ·rename_i n π
  obtain ⟨b,hb,h⟩:=Option.bind_eq_some_iff.1 h
  cases hth:b.thru π with
  | false =>
   rw[hth]at h
   exact zeQ h
  | true =>
   rw[hth]at h
   simp only[cond_true]at h
   split at h
   ·rename_i fs y hu hy
    split at h
    ·rename_i fd hfd
     obtain ⟨ty,_,h⟩:=Option.bind_eq_some_iff.1 h
     split at h
     ·rename_i xs hx
      split at h
      ·rename_i hc
       cases h
       have hp:ty.chk y=true:=hp
       rw[TY.chk_eta hp]at hx
       subst hx
       unfold zbS
       rw[hu]
       simp only[hfd,hb,Option.bind_some,hy,hc,if_true]
      ·cases h
     ·cases h
    ·cases h
   ·cases h
 ·exact zeQ h
theorem zxg {P:Program} {L:Nat→Option Blk} {t:TypeId} {x y:A} {p:Cn} {out:Out} (h:zBA P L t x y=some (p,out)) (hp:p.h):zl2 P L t x y=some out:=by
 unfold zBA at h
 split at h
 ·rename_i n j off len c
  obtain ⟨b,hb,h⟩:=Option.bind_eq_some_iff.1 h
  split at h
  ·rename_i sz xs ex
   split at h
   ·rename_i e hu
    obtain ⟨k,hk,h⟩:=Option.bind_eq_some_iff.1 h
    split at h
    ·rename_i hs
     obtain ⟨ry,hry,h⟩:=Option.bind_eq_some_iff.1 h
     obtain ⟨r,hr,h2⟩:=Option.map_eq_some_iff.1 h
     cases h2
     have hp:(TY.arr k (off+c)).chk (xs.getD j .nilp)=true:=hp
     have hy2:=zvg hp
     have hg:Blk.get (.row (.p sz xs) ex) [.i j]=.pv (.arr k (off+c) ((xs.getD j .nilp).vecv k (off+c))):=by
      show A.pv (PV.get (xs.getD j .nilp) [])=_
      rw[PV.get_nil,←hy2]
     have hset:Blk.set (.row (.p sz xs) ex) [.i j] (.pv (r.arr 0 (off+c)))=some (.row (.p sz (xs.set j (r.arr 0 (off+c)))) ex):=by
      show ((PV.set (xs.getD j .nilp) [] (r.arr 0 (off+c))).map fun z=>RC.p sz (xs.set j z)).map (Blk.row · ex)=_
      have:PV.set (xs.getD j .nilp) [] (r.arr 0 (off+c))=some (r.arr 0 (off+c)):=by cases xs.getD j .nilp<;>rfl
      rw[this]; rfl
     unfold zl2
     rw[hu]
     simp only[hs,if_true,hry,Option.bind_some,hb]
     have he:Blk.elems (.row (.p sz xs) ex) [.i j]=some (.s k ((xs.getD j .nilp).vecv k (off+c)).toList):=by
      show (Blk.get (.row (.p sz xs) ex) [.i j]).elems=_
      rw[hg]; rfl
     have ha:Blk.arrLen (.row (.p sz xs) ex) [.i j]=some (off+c,1):=by
      show M.arrLen (Blk.get (.row (.p sz xs) ex) [.i j])=_
      rw[hg]; rfl
     rw[he,Option.bind_some,hr,Option.bind_some,ha,Option.bind_some,hset]
     rfl
    ·cases h
   ·cases h
  ·exact zeQ h
 ·exact zeQ h
theorem zj2 {P:Program} {L:Nat→Option Blk} {d:Nat} {ρ:Operand→A} {o:Oper} {p:Cn} {out:Out} (h:zy6 P L d ρ o=some (p,out)) (hp:p.h):zbt P L d ρ o=some out:=by
 unfold zy6 at h
 split at h
 case h_11=>exact zeQ h
 case h_10 c hop =>
  split at h
  ·rename_i x y t t1 h1 h2 h3
   unfold zbt
   rw[hop]
   simp only[h1,h2,h3,zf1]
   exact zkp h hp
  ·rename_i x y t t1 h1 h2 h3
   unfold zbt
   rw[hop]
   simp only[h1,h2,h3,zf1]
   exact zxg h hp
  ·exact zeQ h
 all_goals (unfold zbt; rename_i hop; rw[hop]; simp only)
 ·exact zuN h hp
 ·exact zfd h hp fun q r h1 h2=>zyf h1 h2
 ·exact zfd h hp fun q r h1 h2=>zAv h1 h2
 ·exact zfd h hp fun q r h1 h2=>zyE h1 h2
 ·simp only[Option.bind_eq_some_iff]at h ⊢
  obtain ⟨li,h1,ci,h2,h3⟩:=h
  exact ⟨li,h1,ci,h2,zoN h3 hp⟩
 ·simp only[Option.bind_eq_some_iff]at h ⊢
  obtain ⟨l,h1,u,h2,m,h3,h4⟩:=h
  exact ⟨l,h1,u,h2,m,h3,zfd h4 hp fun q r g1 g2=>zsA g1 g2⟩
 ·simp only[Option.bind_eq_some_iff]at h ⊢
  obtain ⟨j,h1,h2⟩:=h
  exact ⟨j,h1,zfd h2 hp fun q r g1 g2=>zn5 g1 g2⟩
 ·simp only[Option.bind_eq_some_iff]at h ⊢
  obtain ⟨j,h1,h2⟩:=h
  exact ⟨j,h1,zfd h2 hp fun q r g1 g2=>ztP g1 g2⟩
 ·exact zfd h hp fun q r h1 h2=>znc h1 h2
end Go.Proofs.YtnolgfdjcipmmaaDoor.M
namespace Go.Proofs.YtnolgfdjcipmmaaDoor.M
open Go
structure CfgW where
 P:Program
 G:Nat→Option PV
 cs:Nat→List A→List (Nat × Blk)→Option (Cn × CallOut)
 sig:Nat→List Bool
 nt:Nat
 np:Nat:=0
 nf:Bool:=false
 it:Nat→List A→(Nat→Option Blk)→Option (List Nat × List (List PV)):=fun _ _ _=>none
 mv:List Nat:=[]
open Classical in
noncomputable def CfgW.cs' (C:CfgW) (f:Nat) (ys:List A) (mem:List (Nat × Blk)):Option CallOut:=(C.cs f ys mem).bind fun r=>if r.1.h then some r.2 else none
noncomputable def CfgW.cfg (C:CfgW):Cfg:={ P:=C.P,G:=C.G,cs:=C.cs',sig:=C.sig,nt:=C.nt,np:=C.np,nf:=C.nf,mv:=C.mv }
def Cn.K:Cn→Prop→Prop
 | none,k=>k
 | some p,k=>p∧k
theorem Cn.K_h {c:Cn} {k:Prop} (h:c.K k):c.h∧k:=by cases c with | none=>exact ⟨trivial,h⟩ | some p=>exact h
theorem Cn.K_mk {c:Cn} {k:Prop} (h:c.h) (hk:k):c.K k:=by cases c with | none=>exact hk | some p=>exact ⟨h,hk⟩
def zxN (L:Nat→Option Blk) (d:Nat) (ms:List Bool) (cs:List A→List (Nat × Blk)→Option (Cn × CallOut)) (xs:List A):Option (Cn × Out) :=
 if(zig L (zjh L ms xs) && zig L (zxh ms xs) && (zxh ms xs).all fun n=>!memN n (zjh L ms xs))=true then
  (mixA (zjh L ms xs) (zxh ms xs) L ms xs).bind fun ys=>(cs ys (zgb (renF (zjh L ms xs)) L (zjh L ms xs))).bind fun r=>(zvq L d (zjh L ms xs) ms xs r.2).map fun x=>(r.1,x)
 else none
def zIK (P:Program) (ρ:Operand→A) (o:Oper):Option (Cn × Out):=match o.op with
 | .index t (.const (.string s)) i=>bif zHG P t then(ρ i).idx.bind fun j=>some (some (0≤j∧j < (s.data.toList.length:Int)),{ val:=.pv (.sc .u8 (s.data.toList.getD j.toNat 0)) })else none
 | _=>none
theorem zCL {P:Program} {ρ:Operand→A} {o:Oper} {p:Cn} {out:Out} (h:zIK P ρ o=some (p,out)) (hp:p.h):opSI P ρ o=some out:=by
 unfold zIK at h
 unfold opSI
 split at h
 ·rename_i t s i hop
  cases ht:zHG P t with
  | false=>rw[ht]at h; cases h
  | true =>
   rw[ht,cond_true]at h
   rw[hop]
   simp only
   rw[if_pos ht]
   obtain ⟨j,hj,h⟩:=Option.bind_eq_some_iff.1 h
   cases h
   rw[hj,Option.bind_some]
   exact if_pos hp
 ·cases h
def ztq (P:Program) (L:Nat→Option Blk) (d:Nat) (ρ:Operand→A) (o:Oper):Option (Cn × Out) :=
 bif siB o then zIK P ρ o else
 bif nilN L d o then zy6 P L (d+30000) ρ o else
 match fzN L ρ o.op with
 | []=>zy6 P L d ρ o
 | n :: r=>(zy6 P (cutL (n :: r) L) d (fun x=>fzA L (n :: r) (ρ x)) o).bind fun q =>
  if fzOK L (n :: r) q.2=true then some (q.1,{ val:=q.2.val,upd:=q.2.upd,cut:=fzC (n :: r)++q.2.cut })else none
theorem zwd {P:Program} {L:Nat→Option Blk} {d:Nat} {ρ:Operand→A} {o:Oper} {p:Cn} {out:Out} (h:ztq P L d ρ o=some (p,out)) (hp:p.h):zjW P L d ρ o=some out:=by
 unfold ztq at h
 unfold zjW
 cases hsi:siB o with
 | true=>rw[hsi]at h; exact zCL h hp
 | false =>
 rw[hsi,cond_false]at h
 rw[cond_false]
 cases hnl:nilN L d o with
 | true=>rw[hnl]at h; exact zj2 h hp
 | false =>
 rw[hnl,cond_false]at h
 rw[cond_false]
 split at h
 ·rename_i e
  rw[e]
  exact zj2 h hp
 ·rename_i n r e
  rw[e]
  simp only
  generalize n :: r=ns at h
  obtain ⟨⟨c,o1⟩,h1,h⟩:=Option.bind_eq_some_iff.1 h
  simp only at h
  split at h
  ·rename_i hok
   cases h
   rw[zj2 h1 hp,Option.bind_some,if_pos hok]
  ·cases h
def znU (L:Nat→Option Blk) (d:Nat) (cs:List A→Option (Cn × CallOut)) (xs:List A):Option (Cn × Out):=(zob L xs).bind fun ys=>(cs ys).bind fun r=>(zvN L d r.2 xs).map fun x=>(r.1,x)
def zrj (L:Nat→Option Blk) (d:Nat) (cs:List A→Option (Cn × CallOut)) (xs:List A):Option (Cn × Out) :=
 (znU (cutL (zbO L xs) L) d cs (fzL L (zbO L xs) xs)).bind fun q =>
  if fzOK L (zbO L xs) q.2=true then some (q.1,{ val:=q.2.val,upd:=q.2.upd,cut:=fzC (zbO L xs)++q.2.cut })else none
def zDU:Nat→List A→Option (Cn × Out)
 | 1,[.pv (.sc .u64 x),.pv (.sc .u64 y),.pv (.sc .u64 c)]=>some (some ((c:UInt64).toNat≤1),{ val:=.tup [.pv (.sc .u64 (x+y+c:UInt64)),.pv (.sc .u64 (zhY x y c))] })
 | 2,[.pv (.sc .u64 x),.pv (.sc .u64 y),.pv (.sc .u64 c)]=>some (some ((c:UInt64).toNat≤1),{ val:=.tup [.pv (.sc .u64 (x - y - c:UInt64)),.pv (.sc .u64 (zmE x y c))] })
 | _,_=>none
theorem zAf {k:Nat} {xs:List A} {p:Cn} {out:Out} (h:zDU k xs=some (p,out)) (hp:p.h):zx3 k xs=some out:=by
 unfold zDU at h
 unfold zx3
 split at h
 ·cases h; exact if_pos hp
 ·cases h; exact if_pos hp
 ·cases h
def zBL (C:CfgW) (L:Nat→Option Blk) (d:Nat) (ρ:Operand→A) (o:Oper):Option (Cn × Out) :=
 match o.op with
 | .call c=>match c.callee with
  | .builtin _=>ztq C.P L d ρ o
  | _=>(zgG ρ c).bind fun g=>bif exB C.P g then zDU (extK C.P g) (zbb C.P ρ c)else bif(C.sig g).isEmpty then znU L d (fun ys=>C.cs g ys []) (zbb C.P ρ c)
   else bif anyT (C.sig g)then zxN L d (C.sig g) (C.cs g) (zbb C.P ρ c)
   else zrj L d (fun ys=>C.cs g ys []) (zbb C.P ρ c)
 | _=>ztq C.P L d ρ o
def zGE (P:Program) (L:Nat→Option Blk) (d:Nat) (ρ:Operand→A) (o:Oper):Option (Cn × Out):=match o.op with
 | .lookup t x i ok=>(mapT P t).bind fun ke=>(zoD L (ρ x)).bind fun nk=>(zoE P ke.2).bind fun z=>(tyOf P 8 ke.2).bind fun ty=>(pvOf (ρ i)).bind fun q =>
   bif zo8 P ke.1 (ρ i)then some (match ke.1 with
     | .sc k=>some (zwC k nk.2=true∧(nk.2.all fun p=>p.2.isAgg == z.isAgg)=true∧ty.chk ((mget nk.2 q).getD z)=true)
     | .w _=>some (zic (zdc q) nk.2=true∧(nk.2.all fun p=>p.2.isAgg == z.isAgg)=true∧ty.chk ((mget nk.2 q).getD z)=true),
    {val:=bif ok then .tup [.pv (ty.eta ((mget nk.2 q).getD z)),.pv (.sc .b (mget nk.2 q).isSome)]else .pv (ty.eta ((mget nk.2 q).getD z)) })else none
 | .mapUpdate t m k v=>(mapT P t).bind fun ke=>(zoD L (ρ m)).bind fun nk=>(pvOf (ρ k)).bind fun q=>(pvOf (ρ v)).bind fun y =>
   bif zo8 P ke.1 (ρ k)then some (match ke.1 with
     | .sc k=>some (zwC k nk.2=true)
     | .w _=>some (zic (zdc q) nk.2=true),{ val:=.und,upd:=[(nk.1,.map (mset nk.2 q y))] })else none
 | .insert t m k v=>(mapT P t).bind fun ke=>(zoD L (ρ m)).bind fun nk=>(pvOf (ρ k)).bind fun q=>(pvOf (ρ v)).bind fun y =>
   bif zo8 P ke.1 (ρ k)then some (match ke.1 with
     | .sc k=>some (zwC k nk.2=true)
     | .w _=>some (zic (zdc q) nk.2=true),{ val:=.und,upd:=[(nk.1,.map (mset nk.2 q y))] })else none
 | .call c=>match c.callee,c.argTypes.toList,c.args.toList with
  | .builtin .delete,t :: _,[m,k]=>(mapT P t).bind fun ke=>(zoD L (ρ m)).bind fun nk=>(pvOf (ρ k)).bind fun q =>
   bif zo8 P ke.1 (ρ k)then some (match ke.1 with
     | .sc k=>some (zwC k nk.2=true)
     | .w _=>some (zic (zdc q) nk.2=true),{ val:=.tup [],upd:=[(nk.1,.map (mdel nk.2 q))] })else none
  | _,_,_=>(zos P L d ρ o).map fun x=>(none,x)
 | _=>(zos P L d ρ o).map fun x=>(none,x)
theorem zAQ {P:Program} {L:Nat→Option Blk} {d:Nat} {ρ:Operand→A} {o:Oper} {p:Cn} {out:Out} (h:zGE P L d ρ o=some (p,out)) (hp:p.h):zos P L d ρ o=some out:=by
 unfold zGE at h
 split at h
 ·rename_i t x i ok hop
  obtain ⟨ke,h1,h⟩:=Option.bind_eq_some_iff.1 h
  obtain ⟨nk,h2,h⟩:=Option.bind_eq_some_iff.1 h
  obtain ⟨z,h3,h⟩:=Option.bind_eq_some_iff.1 h
  obtain ⟨ty,h4,h⟩:=Option.bind_eq_some_iff.1 h
  obtain ⟨q,h5,h⟩:=Option.bind_eq_some_iff.1 h
  cases hs:zo8 P ke.1 (ρ i) with
  | false=>rw[hs]at h; cases h
  | true =>
   rw[hs,cond_true]at h
   obtain ⟨K,e⟩:=ke
   have hall:allK K q nk.2=true∧(nk.2.all fun p=>p.2.isAgg == z.isAgg)=true∧ty.chk ((mget nk.2 q).getD z)=true:=by
    cases K<;>cases h<;>exact hp
   cases h
   obtain ⟨c1,c2,c3⟩:=hall
   unfold zos
   rw[hop]
   simp only[zjJ,h1,h2,h3,h5,Option.bind_some,hs,c1,c2,Bool.and_self,if_true,Option.map_some,TY.chk_eta c3]
 ·rename_i t m k v hop
  obtain ⟨ke,h1,h⟩:=Option.bind_eq_some_iff.1 h
  obtain ⟨nk,h2,h⟩:=Option.bind_eq_some_iff.1 h
  obtain ⟨q,h3,h⟩:=Option.bind_eq_some_iff.1 h
  obtain ⟨y,h4,h⟩:=Option.bind_eq_some_iff.1 h
  cases hs:zo8 P ke.1 (ρ k) with
  | false=>rw[hs]at h; cases h
  | true =>
   rw[hs,cond_true]at h
   obtain ⟨K,e⟩:=ke
   have c1:allK K q nk.2=true:=by
    cases K<;>cases h<;>exact hp
   cases h
   unfold zos
   rw[hop]
   simp only[zdf,h1,h2,h3,h4,Option.bind_some,hs,c1,Bool.and_self,if_true]
 ·rename_i t m k v hop
  obtain ⟨ke,h1,h⟩:=Option.bind_eq_some_iff.1 h
  obtain ⟨nk,h2,h⟩:=Option.bind_eq_some_iff.1 h
  obtain ⟨q,h3,h⟩:=Option.bind_eq_some_iff.1 h
  obtain ⟨y,h4,h⟩:=Option.bind_eq_some_iff.1 h
  cases hs:zo8 P ke.1 (ρ k) with
  | false=>rw[hs]at h; cases h
  | true =>
   rw[hs,cond_true]at h
   obtain ⟨K,e⟩:=ke
   have c1:allK K q nk.2=true:=by
    cases K<;>cases h<;>exact hp
   cases h
   unfold zos
   rw[hop]
   simp only[zdf,h1,h2,h3,h4,Option.bind_some,hs,c1,Bool.and_self,if_true]
 ·rename_i c hop
  split at h
  ·rename_i t r m k hc ht ha
   obtain ⟨ke,h1,h⟩:=Option.bind_eq_some_iff.1 h
   obtain ⟨nk,h2,h⟩:=Option.bind_eq_some_iff.1 h
   obtain ⟨q,h3,h⟩:=Option.bind_eq_some_iff.1 h
   cases hs:zo8 P ke.1 (ρ k) with
   | false=>rw[hs]at h; cases h
   | true =>
    rw[hs,cond_true]at h
    obtain ⟨K,e⟩:=ke
    have c1:allK K q nk.2=true:=by
     cases K<;>cases h<;>exact hp
    cases h
    unfold zos
    rw[hop]
    simp only[hc,ht,ha,List.map_cons,List.map_nil,ziJ,h1,h2,h3,Option.bind_some,hs,c1,Bool.and_self,if_true]
  ·obtain ⟨x,hx,e⟩:=Option.map_eq_some_iff.1 h
   cases e
   exact hx
 ·obtain ⟨x,hx,e⟩:=Option.map_eq_some_iff.1 h
  cases e
  exact hx
def zJd (P:Program) (L:Nat→Option Blk) (mj:Nat × Nat) (d:Nat) (ρ:Operand→A) (o:Oper):Option (Cn × Out):=match o.op with
 | .call c=>match c.callee,c.args.toList,c.argTypes.toList with
  | .builtin .append,[x,y],[t,t1]=>(L mj.1).bind fun b=>(b.set [.f mj.2] .bad).bind fun b' =>
   if zF6 b mj.1 mj.2 d (ρ x) (ρ y)=true then(znW P (upd L mj.1 (some b')) d t t1 (zcd x) (ρ x) (ρ y)).map fun q=>(q.1,zwv mj.1 mj.2 b' q.2)else none
  | _,_,_=>none
 | _=>none
theorem zBn {P:Program} {L:Nat→Option Blk} {mj:Nat × Nat} {d:Nat} {ρ:Operand→A} {o:Oper} {p:Cn} {out:Out} (h:zJd P L mj d ρ o=some (p,out)) (hp:p.h):opAp P L mj d ρ o=some out:=by
 unfold zJd at h
 unfold opAp
 split at h
 ·rename_i c hop
  split at h
  ·rename_i x y t t1 hc hargs htys
   obtain ⟨b,hb,h⟩:=Option.bind_eq_some_iff.1 h
   obtain ⟨b',hs,h⟩:=Option.bind_eq_some_iff.1 h
   split at h
   ·rename_i hh
    obtain ⟨⟨p1,out0⟩,ha,e⟩:=Option.map_eq_some_iff.1 h
    cases e
    rw[hop]
    simp only[hc,hargs,htys,hb,Option.bind_some,hs,if_pos hh,zkp ha hp,Option.map_some]
   ·cases h
  ·cases h
 ·cases h
def zGF (C:CfgW) (L:Nat→Option Blk) (d:Nat) (ρ:Operand→A) (o:Oper):Option (Cn × Out) :=
 bif memN d C.mv then(opMv C.P L d ρ o).map fun x=>(none,x)else match zvX C.mv d with
  | some mj=>zJd C.P L mj d ρ o
  | none=>bif mapB o then zGE C.P L d ρ o else zBL C L d ρ o
theorem zlZ {L:Nat→Option Blk} {d:Nat} {cs:List A→Option (Cn × CallOut)} {cs':List A→Option CallOut} {xs:List A} {p:Cn} {out:Out} (hcs:∀ ys r,cs ys=some r→r.1.h→cs' ys=some r.2) (h:znU L d cs xs=some (p,out)) (hp:p.h):zho L d cs' xs=some out:=by
 unfold znU at h
 unfold zho
 simp only[Option.bind_eq_some_iff,Option.map_eq_some_iff,Prod.mk.injEq]at h ⊢
 obtain ⟨ys,h2,r,h3,x,h4,rfl,rfl⟩:=h
 exact ⟨ys,h2,r.2,hcs _ _ h3 hp,h4⟩
theorem zt8 {L:Nat→Option Blk} {d:Nat} {cs:List A→Option (Cn × CallOut)} {cs':List A→Option CallOut} {xs:List A} {p:Cn} {out:Out} (hcs:∀ ys r,cs ys=some r→r.1.h→cs' ys=some r.2) (h:zrj L d cs xs=some (p,out)) (hp:p.h):zi6 L d cs' xs=some out:=by
 unfold zrj at h
 unfold zi6
 obtain ⟨⟨c,o1⟩,h1,h⟩:=Option.bind_eq_some_iff.1 h
 simp only at h
 split at h
 ·rename_i hok
  cases h
  rw[zlZ hcs h1 hp,Option.bind_some,if_pos hok]
 ·cases h
theorem zxR {C:CfgW} {L:Nat→Option Blk} {d:Nat} {ρ:Operand→A} {o:Oper} {p:Cn} {out:Out} (h:zBL C L d ρ o=some (p,out)) (hp:p.h):znP C.cfg L d ρ o=some out:=by
 have plain:ztq C.P L d ρ o=some (p,out)→zjW C.cfg.P L d ρ o=some out:=fun h=>zwd h hp
 have cs1:∀ {g ys mem} {r:Cn × CallOut},C.cs g ys mem=some r→r.1.h→C.cfg.cs g ys mem=some r.2:=by
  intro g ys mem r hr hrp
  show C.cs' g ys mem=_
  unfold CfgW.cs'
  rw[hr]
  exact if_pos hrp
 unfold zBL at h
 unfold znP
 split at h
 ·rename_i c hc
  have call:((zgG ρ c).bind fun g=>bif exB C.P g then zDU (extK C.P g) (zbb C.P ρ c)else bif(C.sig g).isEmpty then znU L d (fun ys=>C.cs g ys []) (zbb C.P ρ c)
   else bif anyT (C.sig g)then zxN L d (C.sig g) (C.cs g) (zbb C.P ρ c)
   else zrj L d (fun ys=>C.cs g ys []) (zbb C.P ρ c))=some (p,out) →
    ((zgG ρ c).bind fun g=>bif exB C.cfg.P g then zx3 (extK C.cfg.P g) (zbb C.P ρ c)else bif(C.cfg.sig g).isEmpty then zho L d (fun ys=>C.cfg.cs g ys []) (zbb C.P ρ c)
   else bif anyT (C.cfg.sig g)then zh2 L d (C.cfg.sig g) (C.cfg.cs g) (zbb C.P ρ c)
   else zi6 L d (fun ys=>C.cfg.cs g ys []) (zbb C.P ρ c))=some out:=by
   intro h
   obtain ⟨g,h1,h⟩:=Option.bind_eq_some_iff.1 h
   refine Option.bind_eq_some_iff.2 ⟨g,h1,?_⟩
   show (bif exB C.P g then zx3 (extK C.P g) _ else bif(C.sig g).isEmpty then _ else bif anyT (C.sig g)then zh2 L d (C.sig g) (C.cfg.cs g) _ else _)=_
   cases hex:exB C.P g with
   | true=>rw[hex]at h; exact zAf h hp
   | false =>
   rw[hex,cond_false]at h
   rw[cond_false]
   cases hsig:(C.sig g).isEmpty with
   | true =>
    rw[hsig]at h
    exact zlZ (fun ys r h1 h2=>cs1 h1 h2) h hp
   | false =>
    rw[hsig]at h
    simp only[cond_false]at h ⊢
    cases ha:anyT (C.sig g) with
    | false =>
     rw[ha]at h
     exact zt8 (fun ys r h1 h2=>cs1 h1 h2) h hp
    | true =>
    rw[ha]at h
    simp only[cond_true]at h ⊢
    unfold zxN at h
    unfold zh2
    split at h
    ·rename_i hc
     rw[if_pos hc]
     simp only[Option.bind_eq_some_iff,Option.map_eq_some_iff,Prod.mk.injEq]at h ⊢
     obtain ⟨ys,h2,r,h3,x,h4,rfl,rfl⟩:=h
     exact ⟨ys,h2,r.2,cs1 h3 hp,h4⟩
    ·cases h
  rw[hc]
  simp only
  cases hcal:c.callee with
  | builtin b=>rw[hcal]at h; exact plain h
  | value f=>rw[hcal]at h; exact call h
  | invoke r m=>rw[hcal]at h; exact call h
 ·rename_i hne
  split
  ·rename_i c hc; exact (hne c hc).elim
  ·exact plain h
theorem zy9 {C:CfgW} {L:Nat→Option Blk} {d:Nat} {ρ:Operand→A} {o:Oper} {p:Cn} {out:Out} (h:zGF C L d ρ o=some (p,out)) (hp:p.h):zsK C.cfg L d ρ o=some out:=by
 unfold zGF at h
 unfold zsK
 show (bif memN d C.mv then opMv C.P L d ρ o else match zvX C.mv d with
  | some mj=>opAp C.P L mj d ρ o
  | none=>bif mapB o then zos C.P L d ρ o else znP C.cfg L d ρ o)=some out
 cases hmv:memN d C.mv with
 | true =>
  rw[hmv,cond_true]at h
  rw[cond_true]
  obtain ⟨x,hx,e⟩:=Option.map_eq_some_iff.1 h
  cases e
  exact hx
 | false =>
  rw[hmv,cond_false]at h
  rw[cond_false]
  cases hap:zvX C.mv d with
  | some mj =>
   rw[hap]at h
   exact zBn h hp
  | none =>
  rw[hap]at h
  simp only at h ⊢
  cases hmp:mapB o with
  | true=>rw[hmp,cond_true]at h; exact zAQ h hp
  | false=>rw[hmp,cond_false]at h; exact zxR h hp
def zaf (b:Bool) (X Y:Prop):Prop :=
 match b with
 | true=>X
 | false=>Y
def optP {α:Type} (x:Option α) (K:α→Prop):Prop :=
 match x with
 | some a=>K a
 | none=>False
theorem zaB {α:Type} {x:Option α} {K:α→Prop}:optP x K↔∃ a,x=some a∧K a:=by
 cases x with
 | none=>simp[optP]
 | some a=>simp[optP]
def zDM (C:CfgW) (d:Option Nat) (st:St) (out:Out):Option St :=
 if dstB C.np C.nt d && zIQ (zBj (setL st.L out.upd) out.cut) out.cut then some { E:=putE (zAq st.E out.cut) d out.val,L:=zBj (setL st.L out.upd) out.cut } else none
def actP (C:CfgW) (o:Oper) (st:St) (K:Out→St→Prop):Prop :=
 optP (zGF C (lk st.L) (o.dst.getD 0) (ziF C.G st.e) o) fun r=>r.1.K (optP (zDM C o.dst st r.2) (K r.2))
theorem zv4 {C:CfgW} {ops:Array Oper} {o:Oper} {st:St} {K:Out→St→Prop} (hg:zg3 ops st.e o=some true) (h:actP C o st K) :
  ∃ out st',FAct C.cfg ops o st.e (lk st.L) out st'.e (lk st'.L)∧K out st':=by
 obtain ⟨⟨p,out⟩,h1,h2⟩:=zaB.1 h
 obtain ⟨h2,h3⟩:=Cn.K_h h2
 obtain ⟨st',h4,h5⟩:=zaB.1 h3
 refine ⟨out,st',zsJ (C:=C.cfg) ?_ h4,h5⟩
 simp only[act,hg,Option.bind_some,cond_true]
 exact zy9 h1 h2
theorem zvT {C:CfgW} {ops:Array Oper} {o:Oper} {st:St} {K:Out→St→Prop} (hg:zg3 ops st.e o=some false) (h:optP (zDM C o.dst st { val:=.und }) (K { val:=.und })) :
  ∃ out st',FAct C.cfg ops o st.e (lk st.L) out st'.e (lk st'.L)∧K out st':=by
 obtain ⟨st',h4,h5⟩:=zaB.1 h
 refine ⟨_,st',zsJ (C:=C.cfg) ?_ h4,h5⟩
 simp only[act,hg,Option.bind_some,cond_false]
def zBz (C:CfgW) (ops:Array Oper) (o:Oper) (st:St) (K:St→Out→St→Prop):Prop :=
 match zpY ops st.e o with
 | .yes=>actP C o st (K st)
 | .no=>optP (zDM C o.dst st { val:=.und }) (K st { val:=.und })
 | .on b=>zaf b (actP C o (setG ops o true st) (K (setG ops o true st))) (optP (zDM C o.dst (setG ops o false st) { val:=.und }) (K (setG ops o false st) { val:=.und }))
 | .bad=>False
theorem zsa {C:CfgW} {ops:Array Oper} {o:Oper} {st:St} {K:St→Out→St→Prop} (h:zBz C ops o st K) :
  ∃ s out st',s.e=st.e∧s.L=st.L∧FAct C.cfg ops o st.e (lk st.L) out st'.e (lk st'.L)∧K s out st':=by
 unfold zBz at h
 split at h
 ·rename_i hg
  obtain ⟨out,st',h1,h2⟩:=zv4 (ops:=ops) (zEd hg) h
  exact ⟨st,out,st',rfl,rfl,h1,h2⟩
 ·rename_i hg
  obtain ⟨out,st',h1,h2⟩:=zvT (ops:=ops) (zG7 hg) h
  exact ⟨st,out,st',rfl,rfl,h1,h2⟩
 ·rename_i b hg
  obtain ⟨q1,q2,q3⟩:=zGn hg
  cases b with
  | true =>
   obtain ⟨out,st',h1,h2⟩:=zv4 (ops:=ops) (st:=setG ops o true st) (by rw[q2]; exact q1) h
   rw[q2,q3]at h1
   exact ⟨_,out,st',q2,q3,h1,h2⟩
  | false =>
   obtain ⟨out,st',h1,h2⟩:=zvT (ops:=ops) (st:=setG ops o false st) (by rw[q2]; exact q1) h
   rw[q2,q3]at h1
   exact ⟨_,out,st',q2,q3,h1,h2⟩
 ·exact h.elim
def zre (C:CfgW) (ops:Array Oper):List Oper→St→(St→Prop)→Prop
 | [],st,K=>K st
 | o :: r,st,K=>zBz C ops o st fun _ _ s=>zre C ops r s K
theorem zmg {C:CfgW} {ops:Array Oper} {K:St→Prop}:∀ (l:List Oper) (i:Nat) {st:St},(∀ j,j < l.length→ops[i+j]?=l[j]?)→zre C ops l st K →
  ∃ st',RunP C.cfg ops (List.range' i l.length) st.e (lk st.L) st'.e (lk st'.L)∧K st'
 | [],i,st,_,h=>⟨st,.nil,h⟩
 | o :: r,i,st,hl,h=>by
  have hi:ops[i]?=some o:=by simpa using hl 0 (by simp)
  have hr:∀ j,j < r.length→ops[i+1+j]?=r[j]?:=fun j hj=>by
   have:=hl (j+1) (by simpa using hj)
   rw[Nat.add_right_comm,Nat.add_assoc]
   simpa using this
  obtain ⟨s,out,st1,_,_,h1,h2⟩:=zsa h
  obtain ⟨st',h3,h4⟩:=zmg r (i+1) hr h2
  rw[List.length_cons,List.range'_succ]
  exact ⟨st',.cons hi h1 h3,h4⟩
def znI (C:CfgW) (ops:Array Oper):List Oper→Nat→St→List (Nat × Ent)→(St→List (Nat × Ent)→Prop)→Prop
 | [],_,st,log,K=>K st log.reverse
 | o :: r,i,st,log,K=>zBz C ops o st fun s0 out s=>zaf (entB ops o s0) (znI C ops r (i+1) s ((i,zqM ops o s0 out) :: log) K) False
theorem zml {C:CfgW} {ops:Array Oper} {K:St→List (Nat × Ent)→Prop}:∀ (l:List Oper) (i:Nat) (log:List (Nat × Ent)) {st:St},(∀ j,j < l.length→ops[i+j]?=l[j]?)→znI C ops l i st log K →
  ∃ st' log' t,K st' log'∧log'=log.reverse++t∧t.map (·.1)=List.range' i l.length∧Run C.cfg ops t st.e (lk st.L) st'.e (lk st'.L)
 | [],i,log,st,_,h=>⟨st,log.reverse,[],h,by simp,rfl,.nil⟩
 | o :: r,i,log,st,hl,h=>by
  have hi:ops[i]?=some o:=by simpa using hl 0 (by simp)
  have hr:∀ j,j < r.length→ops[i+1+j]?=r[j]?:=fun j hj=>by
   have:=hl (j+1) (by simpa using hj)
   rw[Nat.add_right_comm,Nat.add_assoc]
   simpa using this
  obtain ⟨s0,out,st1,he,hL,h1,h2⟩:=zsa h
  cases hb:entB ops o s0 with
  | false=>rw[hb]at h2; exact h2.elim
  | true =>
   rw[hb]at h2
   obtain ⟨st',log',t,h3,q1,q2,q3⟩:=zml r (i+1) _ hr h2
   have told:=zEl (C:=C.cfg) (out:=out) hb
   rw[he,hL]at told
   refine ⟨st',log',(i,zqM ops o s0 out) :: t,h3,by rw[q1]; simp,?_,.cons hi h1 told q3⟩
   rw[List.map_cons,q2,List.length_cons,List.range'_succ]
def zmp (C:CfgW) (ops:Array Oper) (draw:Bool) (st:St) (K:St→Prop):Prop :=
 zaf draw (zaf (lowB ops.toList 0) (znI C ops ops.toList 0 st [] fun s log=>zaf (zvl ops ops.size log) (K s) False) False)
  (zre C ops ops.toList st K)
theorem zqB {C:CfgW} (hC:CfgOK C.cfg) {k:Wk} (hk:k.G=C.G) (hn:k.nt=C.nt∧k.np=C.np) {ops:Array Oper} {draw:Bool} {st:St} {K:St→Prop} {Q:Exit→Act→World→Prop}
  (h:zmp C ops draw st K) (hQ:∀ st',K st'→∀ β S a w,RlF k β S st'.e (lk st'.L) a w→Q .normal a w) {β:Nat→Value} {S:Nat→Prop} {a:Act} {w:World} (R:RlF k β S st.e (lk st.L) a w) :
  (draw=false→wpOps C.P ops Q (List.range ops.size) a w)∧(draw=true→wpAny C.P .any ops Q ops.size (Array.replicate ops.size false) a { w with drawn:=w.drawn+1 }):=by
 unfold zmp at h
 cases draw with
 | false =>
  obtain ⟨st',hr,h2⟩:=zmg (C:=C) (ops:=ops) ops.toList 0 (fun j hj=>by simp) h
  have:=zzN hC hk hn (hQ st' h2) _ β S a w _ _ hr R
  refine ⟨fun _=>?_,(fun h=>by cases h)⟩
  rw[List.range_eq_range']
  have e:ops.toList.length=ops.size:=by simp
  rw[e]at this
  exact this
 | true =>
  simp only[zaf]at h
  cases hlow:lowB ops.toList 0 with
  | false=>rw[hlow]at h; exact h.elim
  | true =>
   rw[hlow]at h
   obtain ⟨st',log,t,h2,q1,q2,q3⟩:=zml (C:=C) (ops:=ops) ops.toList 0 [] (fun j hj=>by simp) h
   simp only[List.reverse_nil,List.nil_append]at q1
   subst q1
   cases hp:zvl ops ops.size log with
   | false=>rw[hp]at h2; exact h2.elim
   | true =>
    rw[hp]at h2
    have hlen:log.length=ops.size:=by
     have:=congrArg List.length q2
     simpa using this
    have hR:RlF k β S st.e (lk st.L) a { w with drawn:=w.drawn+1 }:=⟨(R.rl.drew),R.env,R.big⟩
    have hkey:∀ j,j < ops.size→∃ b,(j,b) ∈ log:=by
     intro j hj
     have:j ∈ log.map (·.1):=by
      rw[q2]
      simp
      omega
     obtain ⟨p,hp,rfl⟩:=List.mem_map.1 this
     exact ⟨p.2,hp⟩
    have:=zFL hC hk hn (ops:=ops) (fun j o ho ed hed hb=>by
     have:=zvC ops.toList 0 hlow j o (by simpa using ho) ed hed hb
     omega) (hQ st' h2) ops.size log (Array.replicate ops.size false) β S a { w with drawn:=w.drawn+1 } _ _ q3
     (zqq hp (by rw[q2]; exact List.pairwise_lt_range')) (by simp)
     (fun j hj=>⟨fun _=>hkey j hj,fun _=>by simp[hj]⟩)
     (fun j o ho hj=>by
      exfalso
      have hlt:j < ops.size:=(Array.getElem?_eq_some_iff.1 ho).1
      simp[hlt]at hj) hR
    rw[hlen]at this
    exact ⟨(fun h=>by cases h),fun _=>this⟩
theorem zxY {C:CfgW} (hC:CfgOK C.cfg) (hm:C.P.follows .mixedOrders=true) {k:Wk} (hk:k.G=C.G) (hn:k.nt=C.nt∧k.np=C.np) {id:Nat} {ops:Array Oper} {draw:Bool} {st:St} {K:St→Prop} {Q:Exit→Act→World→Prop}
  (h:zmp C ops draw st K) (hQ:∀ st',K st'→∀ β S a w,RlF k β S st'.e (lk st'.L) a w→Q .normal a w) {β:Nat→Value} {S:Nat→Prop} {a:Act} {w:World} (R:RlF k β S st.e (lk st.L) a w) :
  (Code.region id ops draw).wp C.P Q a w:=by
 have:=zqB hC hk hn h hQ R
 cases draw with
 | false=>exact wp_region (this.1 rfl)
 | true=>exact wp_region_any hm (this.2 rfl)
def Det {α:Type} (f:(α→Prop)→Prop):Prop:=∀ K,f K→∃ a,K a∧∀ K',K' a→f K'
theorem zDR {C:CfgW} {o:Oper} {st:St} {K:Out→St→Prop} (h:actP C o st K):∃ out s,K out s∧∀ K':Out→St→Prop,K' out s→actP C o st K':=by
 obtain ⟨⟨p,out⟩,h1,h2⟩:=zaB.1 h
 obtain ⟨h2,h3⟩:=Cn.K_h h2
 obtain ⟨st',h4,h5⟩:=zaB.1 h3
 exact ⟨out,st',h5,fun K' hK=>zaB.2 ⟨_,h1,Cn.K_mk h2 (zaB.2 ⟨_,h4,hK⟩)⟩⟩
theorem zAR {C:CfgW} {ops:Array Oper} {o:Oper} {st:St} {K:St→Out→St→Prop} (h:zBz C ops o st K):∃ s0 out s,K s0 out s∧∀ K':St→Out→St→Prop,K' s0 out s→zBz C ops o st K':=by
 unfold zBz at h ⊢
 cases hg:zpY ops st.e o with
 | yes =>
  rw[hg]at h
  obtain ⟨out,s,h1,h2⟩:=zDR h
  exact ⟨st,out,s,h1,fun K' hK=>h2 (K' st) hK⟩
 | no =>
  rw[hg]at h
  obtain ⟨s,h1,h2⟩:=zaB.1 h
  exact ⟨st,_,s,h2,fun K' hK=>zaB.2 ⟨_,h1,hK⟩⟩
 | on b =>
  rw[hg]at h
  cases b with
  | true =>
   obtain ⟨out,s,h1,h2⟩:=zDR h
   exact ⟨_,out,s,h1,fun K' hK=>h2 (K' _) hK⟩
  | false =>
   obtain ⟨s,h1,h2⟩:=zaB.1 h
   exact ⟨_,_,s,h2,fun K' hK=>zaB.2 ⟨_,h1,hK⟩⟩
 | bad=>rw[hg]at h; exact h.elim
theorem zqa {C:CfgW} {ops:Array Oper}:∀ (l:List Oper) (st:St),Det (zre C ops l st)
 | [],st=>fun K h=>⟨st,h,fun _ hK=>hK⟩
 | o :: r,st=>fun K h=>by
  obtain ⟨s0,out,s,h1,h2⟩:=zAR h
  obtain ⟨a,h3,h4⟩:=zqa r s K h1
  exact ⟨a,h3,fun K' hK=>h2 _ (h4 K' hK)⟩
theorem zpZ {C:CfgW} {ops:Array Oper}:∀ (l:List Oper) (i:Nat) (st:St) (log:List (Nat × Ent)) (K:St→List (Nat × Ent)→Prop),znI C ops l i st log K→∃ s lg,K s lg∧∀ K':St→List (Nat × Ent)→Prop,K' s lg→znI C ops l i st log K'
 | [],i,st,log,K,h=>⟨st,log.reverse,h,fun _ hK=>hK⟩
 | o :: r,i,st,log,K,h=>by
  obtain ⟨s0,out,s,h1,h2⟩:=zAR h
  cases hb:entB ops o s0 with
  | false=>rw[hb]at h1; exact h1.elim
  | true =>
   rw[hb]at h1
   obtain ⟨a,lg,h3,h4⟩:=zpZ r (i+1) s _ K h1
   exact ⟨a,lg,h3,fun K' hK=>h2 _ (by rw[hb]; exact h4 K' hK)⟩
theorem zBb {C:CfgW} {ops:Array Oper} {draw:Bool} {st:St}:Det (zmp C ops draw st):=by
 intro K h
 unfold zmp at h
 cases draw with
 | false=>exact zqa _ _ K h
 | true =>
  simp only[zaf]at h
  cases hlow:lowB ops.toList 0 with
  | false=>rw[hlow]at h; exact h.elim
  | true =>
   rw[hlow]at h
   obtain ⟨s,lg,h3,h4⟩:=zpZ _ _ _ _ _ h
   cases hp:zvl ops ops.size lg with
   | false=>rw[hp]at h3; exact h3.elim
   | true =>
    rw[hp]at h3
    refine ⟨s,h3,fun K' hK=>?_⟩
    unfold zmp
    simp only[zaf]
    rw[hlow]
    exact h4 _ (by rw[hp]; exact hK)
end Go.Proofs.YtnolgfdjcipmmaaDoor.M
namespace Go.Proofs.YtnolgfdjcipmmaaDoor.M
open Go
def zgY (live:List Nat) (st:St) (K:St→Prop):Prop:=optP (zAl live st) K
def zvD (live:List Nat) (st:St):Option St :=
 match live with
 | []=>some st
 | t :: r=>zAl (t :: r) st
theorem zhE {live:List Nat} {st s:St} (h:zvD live st=some s):s=st∨zAl live st=some s:=by
 cases live with
 | nil=>exact .inl (Option.some.inj h).symm
 | cons t r=>exact .inr h
def ztt (t:Nat) (x:UInt8) (st:St) (K:St→Prop):List Nat→Prop
 | []=>False
 | v :: r=>zaf (decide (x=UInt8.ofNat v)) (K { E:=putE st.E (some t) (.pv (.sc .u8 (UInt8.ofNat v))),L:=st.L }) (ztt t x st K r)
def zy1 (sp:List Nat) (st:St) (K:St→Prop):Prop :=
 match sp with
 | []=>K st
 | t :: vs=>match st.e t with
  | .pv (.sc .u8 x)=>ztt t x st K vs
  | _=>False
theorem zGv {E:List (Nat × A)} {t:Nat} {x:A} (h:(lk E t).getD .bad=x) (hx:x≠.bad):∀ u,(lk (putE E (some t) x) u).getD .bad=(lk E u).getD .bad:=by
 intro u
 rw[putE,zaD]
 by_cases e:t=u
 ·subst e; rw[if_pos rfl,h]; rfl
 ·rw[if_neg e,zcz (fun m=>!Nat.beq m t)]
  have:Nat.beq u t=false:=by
   cases hq:Nat.beq u t with
   | false=>rfl
   | true=>exact absurd (nbeq.1 hq).symm e
  rw[this]; rfl
theorem zsW {t:Nat} {x:UInt8} {st:St} (hx:st.e t=.pv (.sc .u8 x)) {K:St→Prop}:∀ {vs:List Nat},ztt t x st K vs →
  ∃ st',K st'∧(st'.e=st.e∧st'.L=st.L)∧∀ K':St→Prop,K' st'→ztt t x st K' vs
 | [],h=>h.elim
 | v :: r,h=>by
  unfold ztt at h
  by_cases e:x=UInt8.ofNat v
  ·rw[decide_eq_true e]at h
   subst e
   refine ⟨_,h,⟨funext (zGv hx (fun q=>by cases q)),rfl⟩,fun K' hK=>?_⟩
   unfold ztt
   rw[decide_eq_true rfl]
   exact hK
  ·rw[decide_eq_false e]at h
   obtain ⟨s,h1,h2,h3⟩:=zsW hx h
   refine ⟨s,h1,h2,fun K' hK=>?_⟩
   unfold ztt
   rw[decide_eq_false e]
   exact h3 K' hK
theorem znl {sp:List Nat} {st:St} {K:St→Prop} (h:zy1 sp st K):∃ st',K st'∧(st'.e=st.e∧st'.L=st.L)∧∀ K':St→Prop,K' st'→zy1 sp st K':=by
 unfold zy1 at h
 split at h
 ·exact ⟨st,h,⟨rfl,rfl⟩,fun K' hK=>hK⟩
 ·rename_i t vs
  split at h
  ·rename_i x hx
   obtain ⟨s,h1,h2,h3⟩:=zsW hx h
   refine ⟨s,h1,h2,fun K' hK=>?_⟩
   unfold zy1
   simp only[hx]
   exact h3 K' hK
  ·exact h.elim
def Ex.go (K:Ex→St→Prop) (N:St→Prop) (e:Ex) (s:St):Prop :=
 match e with
 | .normal=>N s
 | .exit i=>K (.exit i) s
 | .ret=>K .ret s
def Ex.blk (id:Nat) (K:Ex→St→Prop) (e:Ex) (s:St):Prop :=
 match e with
 | .exit j=>bif Nat.beq j id then K .normal s else K (.exit j) s
 | .normal=>K .normal s
 | .ret=>K .ret s
def zzz (f:St→(Ex→St→Prop)→Prop):Nat→St→(Ex→St→Prop)→Prop
 | 0,_,_=>False
 | n+1,st,K=>f st (Ex.go K fun s=>zzz f n s K)
structure Loop (tag:Nat) (f:St→(Ex→St→Prop)→Prop) (st:St) (K:Ex→St→Prop):Prop where
 ex:∃ n,zzz f n st K
def zIL (st:St) (t:Nat):A :=
 bif Nat.ble 4000 t then(match st.e (t - 4000) with
  | .p n π=>.vw n π 0 0 none
  | _=>.bad) else
 bif Nat.ble 2000 t then(match st.e (t - 2000) with
  | .p n π=>match lk st.L n with
   | some b=>b.get π
   | none=>.bad
  | _=>.bad)else st.e t
def zIJ (ts:List Nat) (st:St):Option St :=
 match zbO (lk st.L) (ts.map (zIL st)) with
 | []=>some st
 | n :: r=>some { E:=st.E.map fun p=>(p.1,fzA (lk st.L) (n :: r) p.2),L:=(st.L.filter fun p=>!memN p.1 (n :: r)).map fun p=>(p.1,fzB (lk st.L) (n :: r) p.2) }
def fzSt (ts:List Nat) (st:St):Option St :=
 match ts with
 | []=>some st
 | t :: r=>(zIJ (t :: r) st).map fun s=>{ E:=s.E,L:=loL s.L }
theorem zyg {m:Nat}:∀ {l ns:List Nat},m ∈ addN ns l→m ∈ ns∨m ∈ l
 | [],ns,h=>.inl h
 | n :: r,ns,h=>by
  unfold addN at h
  cases hq:memN n ns with
  | true =>
   rw[hq]at h
   exact (zyg h).imp id (fun h=>by simp[h])
  | false =>
   rw[hq]at h
   rcases zyg h with h | h
   ·rcases List.mem_append.1 h with h | h
    ·exact .inl h
    ·exact .inr (by simp at h; simp[h])
   ·exact .inr (by simp[h])
mutual
theorem zAU {L:Nat→Option Blk} {m:Nat}:∀ {x:A},m ∈ zdh L x→∃ b,L m=some b
 | .o n,h=>by
  simp only[zdh]at h
  split at h
  ·rename_i rc ex hL
   simp at h
   subst h
   exact ⟨_,hL⟩
  ·cases h
 | .vw n π q l c,h=>by
  simp only[zdh]at h
  split at h
  ·rename_i r hr
   obtain ⟨b,hb,_⟩:=Option.bind_eq_some_iff.1 hr
   simp at h
   subst h
   exact ⟨b,hb⟩
  ·cases h
 | .st fs,h=>by
  simp only[zdh]at h
  exact zjL h
 | .pv _,h=>by simp[zdh]at h
 | .rp _,h=>by simp[zdh]at h
 | .p ..,h=>by simp[zdh]at h
 | .pr ..,h=>by simp[zdh]at h
 | .tup _,h=>by simp[zdh]at h
 | .fn ..,h=>by simp[zdh]at h
 | .und,h=>by simp[zdh]at h
 | .bad,h=>by simp[zdh]at h
theorem zjL {L:Nat→Option Blk} {m:Nat}:∀ {xs:List A},m ∈ zbO L xs→∃ b,L m=some b
 | [],h=>by cases h
 | x :: xs,h=>by
  simp only[zbO]at h
  rcases zyg h with h | h
  ·exact zAU h
  ·exact zjL h
end
theorem zC5 {ts:List Nat} {st st':St} (h:zIJ ts st=some st') {k:Wk} {β:Nat→Value} {S:Nat→Prop} {a:Act} {w:World} (R:RlF k β S st.e (lk st.L) a w) :
  ∃ S',RlF k β S' st'.e (lk st'.L) a w:=by
 unfold zIJ at h
 have hr0:∀ m,m ∈ zbO (lk st.L) (ts.map (zIL st))→∃ b,lk st.L m=some b:=fun m hm=>zjL hm
 generalize zbO (lk st.L) (ts.map (zIL st))=ns at h hr0
 split at h
 ·cases h
  exact ⟨S,R⟩
 ·rename_i n r
  cases h
  generalize n :: r=ns at hr0
  have e1:lk ((st.L.filter fun p=>!memN p.1 ns).map fun p=>(p.1,fzB (lk st.L) ns p.2))=cutM ns (lk st.L):=by
   funext m
   rw[zow (fzB (lk st.L) ns),zcz (fun m=>!memN m ns)]
   unfold cutM
   cases memN m ns<;>simp
  obtain ⟨S',R1,tr⟩:=R.rl.freezesM (ns:=ns) (fun n hn=>hr0 n (zbU.1 hn))
  have he:∀ t,(St.e { E:=st.E.map fun p=>(p.1,fzA (lk st.L) ns p.2),L:=(st.L.filter fun p=>!memN p.1 ns).map fun p=>(p.1,fzB (lk st.L) ns p.2) }) t=fzA (lk st.L) ns (st.e t):=by
   intro t
   simp only[St.e]
   rw[zow (fzA (lk st.L) ns)]
   cases lk st.E t<;>rfl
  refine ⟨S',?_,fun t=>?_,fun t ht=>?_⟩
  ·show Rl k β S' [] (lk ((st.L.filter fun p=>!memN p.1 ns).map fun p=>(p.1,fzB (lk st.L) ns p.2))) a w
   rw[e1]
   exact R1
  ·rw[he t]
   show RepA β S' w.heap (lk ((st.L.filter fun p=>!memN p.1 ns).map fun p=>(p.1,fzB (lk st.L) ns p.2))) _ _
   rw[e1]
   exact tr _ _ (R.env t)
  ·rw[he t,R.big t ht]; rfl
theorem zlF {ts:List Nat} {st st':St} (h:fzSt ts st=some st') {k:Wk} {β:Nat→Value} {S:Nat→Prop} {a:Act} {w:World} (R:RlF k β S st.e (lk st.L) a w) :
  ∃ S',RlF k β S' st'.e (lk st'.L) a w:=by
 unfold fzSt at h
 split at h
 ·cases h
  exact ⟨S,R⟩
 ·simp only[Option.map_eq_some_iff]at h
  obtain ⟨s,h1,rfl⟩:=h
  obtain ⟨S',R1⟩:=zC5 h1 R
  obtain ⟨M,tr⟩:=zBl R1.rl.mem
  exact ⟨S',{ R1.rl with mem:=M,env:=fun t x hx=>by cases hx },fun t=>tr _ _ (R1.env t),R1.big⟩
def cut (m:Nat) (st:St):St:={ E:=st.E.filter fun p=>Nat.blt p.1 m,L:=st.L }
def zDt (ps:List Nat) (x:List PV) (st:St):St:={ E:=(ps.zip (x.map A.pv)).reverse++st.E,L:=st.L }
def rngP (f:List PV→St→(Ex→St→Prop)→Prop):List (List PV)→St→(Ex→St→Prop)→Prop
 | [],s,K=>K .normal s
 | x :: xs,s,K=>f x s (Ex.go K fun s=>rngP f xs s K)
structure Rng (tag:Nat) (f:List PV→St→(Ex→St→Prop)→Prop) (xs:List (List PV)) (st:St) (K:Ex→St→Prop):Prop where
 r:rngP f xs st K
def zlH (o:Oper):Bool :=
 match o.op with
 | .defer _=>false
 | _=>true
def zhp:Code→Bool
 | .region _ ops _=>ops.toList.all zlH
 | .seq a b=>zhp a && zhp b
 | .cond _ a b=>zhp a && zhp b
 | .block _ a=>zhp a
 | .loop a=>zhp a
 | .scope _=>false
 | .rangeFunc ..=>false
 | _=>true
def zyi (C:CfgW) (m:Nat) (live:List Nat) (g:Operand) (ps:List Nat) (a b:Code) (st:St) (K:List (List PV)→St→Prop):Prop :=
 zaf (zhp a && zhp b && Nat.ble C.np m && live.all (fun t=>Nat.blt t m) && ps.all fun t=>Nat.ble m t && Nat.blt t C.nt)
  (match ziF C.G st.e g with
  | .fn gf caps=>optP (C.it gf caps (lk st.L)) fun r=>zaf (r.1.all fun n=>(lk st.L n).isSome && !memN n (zf0 live st)) (zgY live st fun s=>K r.2 s) False
  | _=>False) False
def Ex.one (K:St→Prop) (e:Ex) (s:St):Prop :=
 match e with
 | .normal=>K s
 | _=>False
def zcY:CfgW→(Nat→List Nat)→Nat→Code→St→(Ex→St→Prop)→Prop
 | _,_,_,.skip,st,K=>K .normal st
 | C,lv,_,.region id ops draw,st,K=>zy1 (lv (5000000+id)) st fun st=>optP (fzSt (lv (1000000+id)) st) fun st=>zmp C ops draw st fun s=>K .normal s
 | C,lv,cur,.seq a b,st,K=>zcY C lv cur a st (Ex.go K fun s=>zcY C lv cur b s K)
 | C,lv,cur,.cond c a b,st,K=>match ziF C.G st.e c with
  | .pv (.sc .b t)=>zaf t (zcY C lv cur a st K) (zcY C lv cur b st K)
  | _=>False
 | C,lv,_,.block id body,st,K=>zcY C lv id body st (Ex.blk id K)
 | C,lv,cur,.loop body,st,K=>match lv (4000000+cur) with
  | n :: live=>optP (zvD live st) fun s=>zzz (fun s k=>zcY C lv cur body s (Ex.go k fun s1=>optP (zvD live s1) (k .normal))) n s K
  | []=>zgY (lv cur) st fun s=>Loop cur (fun s k=>zcY C lv cur body s (Ex.go k fun s1=>zgY (lv cur) s1 (k .normal))) s K
 | _,_,_,.exit id,st,K=>K (.exit id) st
 | _,lv,_,.ret,st,K=>optP (fzSt (lv 6000000) st) fun s=>K .ret s
 | C,lv,cur,.scope c,st,K=>zcY C lv cur c st K
 | _,_,_,.label _,st,K=>K .normal st
 | C,lv,cur,.rangeFunc g ps a b,st,K=>zyi C ((lv (3000000+cur)).headD 0) ((lv (3000000+cur)).drop 1) g ps.toList a b st fun xs s =>
   Rng cur (fun x s k=>zaf (Nat.beq x.length ps.size) (zcY { C with np:=(lv (3000000+cur)).headD 0 } lv cur a (zDt ps.toList x s) (Ex.one fun s1 =>
    zcY { C with np:=(lv (3000000+cur)).headD 0 } lv cur b s1 (Ex.go (fun e s=>k e (cut ((lv (3000000+cur)).headD 0) s)) fun s2=>zgY ((lv (3000000+cur)).drop 1) s2 fun s3=>k .normal s3))) False) xs s K
 | _,_,_,_,_,_=>False
end Go.Proofs.YtnolgfdjcipmmaaDoor.M
