/- Part of the proofs: a reckoning of code on values by names, shown sound against the model. No condition. -/
import Derived.LoopN
import Derived.Scope
import Derived.Test.YtnolgfdjcipmmaaDoorLc
set_option linter.unusedVariables false
set_option linter.unusedSimpArgs false
set_option autoImplicit false
namespace Go.Proofs.YtnolgfdjcipmmaaDoor.M
open Go
def zcv (c:List (Nat × Option (List PE))):List Nat:=c.map (·.1)
def Out.writes (o:Out):List Nat:=o.upd.map (·.1)++zcv o.cut
theorem zqs {c:List (Nat × Option (List PE))} {v:Bool} {n:Nat} {π:List PE} (h:n ∉ zcv c):zai c v n π=true:=by
  unfold zai
  rw[List.all_eq_true]
  intro e he
  have hne:n≠e.1:=fun q=>h (by rw[q]; exact List.mem_map_of_mem he)
  have:Nat.beq n e.1=false:=by
    cases hq:Nat.beq n e.1 with
    | false=>rfl
    | true=>exact absurd (nbeq.1 hq) hne
  obtain ⟨a,b⟩:=e
  cases b<;>simp only at this ⊢<;>rw[this]<;>rfl
mutual
theorem A.all_of {c:List (Nat × Option (List PE))}:∀ (x:A),(∀ n ∈ x.names,n ∉ zcv c)→x.all (zai c)=true
  | .pv _,_=>rfl
  | .rp _,_=>rfl
  | .und,_=>rfl
  | .bad,_=>rfl
  | .p n π,h=>by rw[A.all]; exact zqs (h n (by simp[A.names]))
  | .pr n π q l,h=>by rw[A.all]; exact zqs (h n (by simp[A.names]))
  | .o n,h=>by rw[A.all]; exact zqs (h n (by simp[A.names]))
  | .vw n π q l d,h=>by rw[A.all]; exact zqs (h n (by simp[A.names]))
  | .st fs,h=>by rw[A.all]; exact A.allL_of fs (by simpa [A.names] using h)
  | .tup fs,h=>by rw[A.all]; exact A.allL_of fs (by simpa [A.names] using h)
  | .fn _ fs,h=>by rw[A.all]; exact A.allL_of fs (by simpa [A.names] using h)
theorem A.allL_of {c:List (Nat × Option (List PE))}:∀ (xs:List A),(∀ n ∈ A.namesL xs,n ∉ zcv c)→A.allL (zai c) xs=true
  | [],_=>rfl
  | x :: xs,h=>by
    rw[A.allL,A.all_of x (fun n hn=>h n (by simp[A.namesL,hn])),A.allL_of xs (fun n hn=>h n (by simp[A.namesL,hn]))]; rfl
end
theorem Blk.all_of {c:List (Nat × Option (List PE))} (b:Blk) (h:∀ n ∈ b.names,n ∉ zcv c):b.all (zai c)=true:=by
  cases b with
  | box x=>exact A.all_of x h
  | row _ _=>rfl
  | map _=>rfl
def Same (L L':Nat→Option Blk) (ns:List Nat):Prop:=∀ n ∈ ns,L' n=L n
section
variable {P:Program} {L L':Nat→Option Blk}
theorem zcD {d:Nat} (h:L' d=L d) (b:Blk) (x:A):zdZ L' d b x=zdZ L d b x:=by unfold zdZ; rw[h]
theorem zeO {x:A} (h:Same L L' x.names):zdy L' x=zdy L x:=by
  cases x with
  | pv p=>cases p<;>rfl
  | rp p=>cases p<;>rfl
  | p n π=>first | rfl | (have:=h n (by simp[A.names]); simp only[zdy,this])
  | pr n π q l=>first | rfl | (have:=h n (by simp[A.names]); simp only[zdy,this])
  | o n=>first | rfl | (have:=h n (by simp[A.names]); simp only[zdy,this])
  | vw n π q l c=>first | rfl | (have:=h n (by simp[A.names]); simp only[zdy,this])
  | _=>rfl
theorem zx2 {t:TypeId} {x:A} (h:Same L L' x.names):zf4 P L' t x=zf4 P L t x:=by
  cases x with
  | pv p=>cases p<;>rfl
  | rp p=>cases p<;>rfl
  | p n π=>first | rfl | (have:=h n (by simp[A.names]); simp only[zf4,this])
  | pr n π q l=>first | rfl | (have:=h n (by simp[A.names]); simp only[zf4,this])
  | o n=>first | rfl | (have:=h n (by simp[A.names]); simp only[zf4,this])
  | vw n π q l c=>first | rfl | (have:=h n (by simp[A.names]); simp only[zf4,this])
  | _=>rfl
theorem zv8 {t:TypeId} {x y:A} (h:Same L L' x.names):ze7 P L' t x y=ze7 P L t x y:=by
  cases x with
  | pv p=>cases p<;>rfl
  | rp p=>cases p<;>rfl
  | p n π=>first | rfl | (have:=h n (by simp[A.names]); simp only[ze7,this])
  | pr n π q l=>first | rfl | (have:=h n (by simp[A.names]); simp only[ze7,this])
  | o n=>first | rfl | (have:=h n (by simp[A.names]); simp only[ze7,this])
  | vw n π q l c=>first | rfl | (have:=h n (by simp[A.names]); simp only[ze7,this])
  | _=>rfl
theorem zob {t:TypeId} {x:A} {j:Int} (h:Same L L' x.names):zbF P L' t x j=zbF P L t x j:=by
  cases x with
  | pv p=>cases p<;>rfl
  | rp p=>cases p<;>rfl
  | p n π=>first | rfl | (have:=h n (by simp[A.names]); simp only[zbF,this])
  | pr n π q l=>first | rfl | (have:=h n (by simp[A.names]); simp only[zbF,this])
  | o n=>first | rfl | (have:=h n (by simp[A.names]); simp only[zbF,this])
  | vw n π q l c=>first | rfl | (have:=h n (by simp[A.names]); simp only[zbF,this])
  | _=>rfl
theorem zoq {t:TypeId} {x:A} {j:Nat} (h:Same L L' x.names):zbj P L' t x j=zbj P L t x j:=by
  cases x with
  | pv p=>cases p<;>rfl
  | rp p=>cases p<;>rfl
  | p n π=>first | rfl | (have:=h n (by simp[A.names]); simp only[zbj,this])
  | pr n π q l=>first | rfl | (have:=h n (by simp[A.names]); simp only[zbj,this])
  | o n=>first | rfl | (have:=h n (by simp[A.names]); simp only[zbj,this])
  | vw n π q l c=>first | rfl | (have:=h n (by simp[A.names]); simp only[zbj,this])
  | _=>rfl
theorem zxv {t:TypeId} {x:A} {lo hi mx:Option Int} (h:Same L L' x.names):zef P L' t x lo hi mx=zef P L t x lo hi mx:=by
  cases x with
  | pv p=>cases p<;>rfl
  | rp p=>cases p<;>rfl
  | p n π=>first | rfl | (have:=h n (by simp[A.names]); simp only[zef,this])
  | pr n π q l=>first | rfl | (have:=h n (by simp[A.names]); simp only[zef,this])
  | o n=>first | rfl | (have:=h n (by simp[A.names]); simp only[zef,this])
  | vw n π q l c=>first | rfl | (have:=h n (by simp[A.names]); simp only[zef,this])
  | _=>rfl
theorem zyc {t:TypeId} {x y:A} (h:Same L L' x.names) (h2:Same L L' y.names):zlL P L' t x y=zlL P L t x y:=by
  unfold zlL
  rw[zeO h2]
  cases x with
  | o n=>simp only; rw[h n (by simp[A.names])]
  | vw n π off len cap=>cases π<;>(simp only; rw[h n (by simp[A.names])])
  | _=>rfl
theorem ztJ {s t:TypeId} {x:A} (h:Same L L' x.names):zie P L' s t x=zie P L s t x:=by
  cases x with
  | o n=>simp only[zie]; rw[h n (by simp[A.names])]
  | _=>rfl
theorem zBo {t:TypeId} {x:A} (h:Same L L' x.names):zqY P L' t x=zqY P L t x:=by
  cases x with
  | pv p=>cases p<;>rfl
  | rp p=>cases p<;>rfl
  | p n π=>first | rfl | (have:=h n (by simp[A.names]); simp only[zqY,this])
  | pr n π q l=>first | rfl | (have:=h n (by simp[A.names]); simp only[zqY,this])
  | o n=>first | rfl | (have:=h n (by simp[A.names]); simp only[zqY,this])
  | vw n π q l c=>first | rfl | (have:=h n (by simp[A.names]); simp only[zqY,this])
  | _=>rfl
theorem zDw {x:A} (h:Same L L' x.names):lenA L' x=lenA L x:=by
  cases x with
  | pv p=>cases p<;>rfl
  | rp p=>cases p<;>rfl
  | p n π=>first | rfl | (have:=h n (by simp[A.names]); simp only[lenA,this])
  | pr n π q l=>first | rfl | (have:=h n (by simp[A.names]); simp only[lenA,this])
  | o n=>first | rfl | (have:=h n (by simp[A.names]); simp only[lenA,this])
  | vw n π q l c=>first | rfl | (have:=h n (by simp[A.names]); simp only[lenA,this])
  | _=>rfl
theorem zCP {x:A} (h:Same L L' x.names):capA L' x=capA L x:=by
  cases x with
  | o n=>simp only[capA]; rw[h _ (by simp[A.names])]
  | vw n π q l c=>cases c<;>rfl
  | _=>rfl
theorem zAY {t:TypeId} {x:A} (h:Same L L' x.names):zCV P L' t x=zCV P L t x:=by unfold zCV; rw[zDw h]
theorem zA9 {t:TypeId} {x:A} (h:Same L L' x.names):zDX P L' t x=zDX P L t x:=by unfold zDX; rw[zCP h]
theorem ztP {e:TypeId} {z:Bool} {y:A} (h:Same L L' y.names):zgl P L' e z y=zgl P L e z y:=by unfold zgl; rw[zeO h]
theorem zlF {d:Nat} {t t1:TypeId} {nilc:Bool} {x y:A} (hd:L' d=L d) (hx:Same L L' x.names) (hy:Same L L' y.names):zdE P L' d t t1 nilc x y=zdE P L d t t1 nilc x y:=by
  unfold zdE
  split
  · simp only[zeO hx,ztP hy,zcD hd,hd]
  · rfl
theorem zn9 {d:Nat} {t:TypeId} {l c:Int} {ex:Bool} (hd:L' d=L d):zcB P L' d t l c ex=zcB P L d t l c ex:=by
  unfold zcB
  simp only[zcD hd]
theorem znu {d:Nat} {t:TypeId} {n:Nat} {ps:List (Nat × A)} (hd:L' d=L d):zcI P L' d t n ps=zcI P L d t n ps:=by
  unfold zcI
  simp only[zcD hd]
theorem zBz {x:A} (h:Same L L' x.names):zh9 L' x=zh9 L x:=by
  cases x with
  | p n π=>simp only[zh9]; rw[h _ (by simp[A.names])]
  | pr n π q l=>simp only[zh9]; rw[h _ (by simp[A.names])]
  | o n=>simp only[zh9]; rw[zeO h]
  | vw n π q l c=>simp only[zh9]; rw[zeO h]
  | fn f cs=>cases cs<;>rfl
  | _=>rfl
theorem zpY:∀ {xs:List A},(∀ x ∈ xs,Same L L' x.names)→zmY L' xs=zmY L xs
  | [],_=>rfl
  | x :: xs,h=>by
    have h2:∀ y ∈ xs,Same L L' y.names:=fun y hy=>h y (List.mem_cons_of_mem _ hy)
    simp only[zmY,zBz (h x (by simp)),zpY h2]
theorem zAT {G:Nat→Option PV} {e e':Nat→A} {x:Operand} (h:∀ t,x=.tmp t→e' t=e t):zhC G e' x=zhC G e x:=by
  cases x with
  | tmp t=>exact h t rfl
  | _=>rfl
theorem zmo {ρ ρ':Operand→A} {d:Nat} {o:Oper} (hρ:∀ x ∈ o.op.operands,ρ' x=ρ x) (hd:L' d=L d) (hL:∀ x ∈ o.op.operands,Same L L' (ρ x).names):za6 P L' d ρ' o=za6 P L d ρ o:=by
  have parts:∀ ps:Array (Nat × Operand),(∀ x ∈ (ps.toList.map (·.2)).toArray,ρ' x=ρ x)→(ps.toList.map fun p=>(p.1,ρ' p.2))=ps.toList.map fun p=>(p.1,ρ p.2):=by
    intro ps h
    refine List.map_congr_left fun p hp=>?_
    rw[h p.2 (by simp; exact ⟨p.1,by simpa using hp⟩)]
  have idx:∀ z:Option Operand,(∀ x ∈ z,ρ' x=ρ x)→idxO ρ' z=idxO ρ z:=by
    intro z h
    cases z with
    | none=>rfl
    | some x=>simp only[idxO]; rw[h x rfl]
  unfold za6
  cases hop:o.op with
  | move x=>simp only[hop,Op.operands]at hρ hL ⊢; rw[hρ x (by simp)]; simp only[zcD hd]
  | assign x=>simp only[hop,Op.operands]at hρ hL ⊢; rw[hρ x (by simp)]; simp only[zcD hd]
  | pick c x y=>simp only[hop,Op.operands]at hρ hL ⊢; rw[hρ c (by simp),hρ x (by simp),hρ y (by simp)]
  | alloc t=>simp only[zvK,zcD hd]
  | box t x=>simp only[hop,Op.operands]at hρ hL ⊢; rw[hρ x (by simp)]; simp only[zGt,zcD hd]
  | build t ps=>simp only[hop,Op.operands]at hρ hL ⊢; rw[parts ps hρ]
  | buildSlice t n ps=>simp only[hop,Op.operands]at hρ hL ⊢; rw[parts ps hρ,znu hd]
  | load t x=>simp only[hop,Op.operands]at hρ hL ⊢; rw[hρ x (by simp),zx2 (hL x (by simp))]
  | store t x y=>simp only[hop,Op.operands]at hρ hL ⊢; rw[hρ x (by simp),hρ y (by simp),zv8 (hL x (by simp))]
  | nilCheck x=>simp only[hop,Op.operands]at hρ hL ⊢; rw[hρ x (by simp)]
  | binOp op t x y z=>simp only[hop,Op.operands]at hρ hL ⊢; rw[hρ x (by simp),hρ y (by simp)]
  | unOp op t x=>simp only[hop,Op.operands]at hρ hL ⊢; rw[hρ x (by simp)]
  | convert s t x=>simp only[hop,Op.operands]at hρ hL ⊢; rw[hρ x (by simp),ztJ (hL x (by simp))]
  | sliceToArrayPointer t x=>simp only[hop,Op.operands]at hρ hL ⊢; rw[hρ x (by simp),zBo (hL x (by simp))]
  | makeSlice t l c=>simp only[hop,Op.operands]at hρ hL ⊢; rw[hρ l (by simp),hρ c (by simp)]; simp only[zn9 hd]
  | slice t x lo hi mx =>
    simp only[hop,Op.operands]at hρ hL ⊢
    rw[hρ x (by simp),idx lo (fun z hz=>hρ z (by simp[Option.mem_def.1 hz])),idx hi (fun z hz=>hρ z (by simp[Option.mem_def.1 hz])),idx mx (fun z hz=>hρ z (by simp[Option.mem_def.1 hz]))]
    simp only[zxv (hL x (by simp))]
  | fieldAddr t x f=>simp only[hop,Op.operands]at hρ hL ⊢; rw[hρ x (by simp),zoq (hL x (by simp))]
  | field t x f=>simp only[hop,Op.operands]at hρ hL ⊢; rw[hρ x (by simp)]
  | indexAddr t x i=>simp only[hop,Op.operands]at hρ hL ⊢; rw[hρ x (by simp),hρ i (by simp)]; simp only[zob (hL x (by simp))]
  | index t x i=>simp only[hop,Op.operands]at hρ hL ⊢; rw[hρ x (by simp),hρ i (by simp)]
  | extract x i=>simp only[hop,Op.operands]at hρ hL ⊢; rw[hρ x (by simp)]
  | makeFunc fn first caps =>
    simp only[hop,Op.operands]at hρ hL ⊢
    have hm:caps.toList.map ρ'=caps.toList.map ρ:=List.map_congr_left fun x hx=>hρ x (by simp only[Array.mem_append]; right; simpa using hx)
    cases fn<;>simp only[hm]
  | call c =>
    simp only[hop,Op.operands,Call.operands]at hρ hL ⊢
    cases hc:c.callee with
    | builtin b =>
      simp only
      have hρ':∀ x ∈ c.args.toList,ρ' x=ρ x:=fun x hx=>hρ x (by simp[hc]; simpa using hx)
      have hL':∀ x ∈ c.args.toList,Same L L' (ρ x).names:=fun x hx=>hL x (by simp[hc]; simpa using hx)
      generalize c.args.toList=xs at *
      generalize c.argTypes.toList=ts at *
      unfold zeU
      split
      · rename_i x y t t1
        rw[hρ' x (by simp),hρ' y (by simp),zlF hd (hL' x (by simp)) (hL' y (by simp))]
      · rename_i x t
        rw[hρ' x (by simp),zAY (hL' x (by simp))]
      · rename_i x t
        rw[hρ' x (by simp),zA9 (hL' x (by simp))]
      · rename_i x y t t2
        rw[hρ' x (by simp),hρ' y (by simp),zyc (hL' x (by simp)) (hL' y (by simp))]
      · rename_i x y
        rw[hρ' x (by simp),hρ' y (by simp)]
      · rename_i x y
        rw[hρ' x (by simp),hρ' y (by simp)]
      · rfl
    | _=>rfl
  | _=>rfl
theorem zpn {ρ ρ':Operand→A} {d:Nat} {o:Oper} {out:Out} (h:zjw P L d ρ o=some out) (hρ:∀ x ∈ o.op.operands,ρ' x=ρ x) (hd:L' d=L d) (hL:∀ x ∈ o.op.operands,Same L L' (ρ x).names)
    (hw:∀ n ∈ out.writes,L' n=L n):zjw P L' d ρ' o=some out:=by
  unfold zjw at h ⊢
  cases hsi:siB o with
  | true =>
    rw[hsi,cond_true]at h
    rw[cond_true,zD6 hρ]
    exact h
  | false =>
  rw[hsi,cond_false]at h
  rw[cond_false]
  have hn:nilN L' d o=nilN L d o:=by unfold nilN; rw[hd]
  rw[hn]
  cases hnl:nilN L d o with
  | true =>
    rw[hnl,cond_true]at h
    rw[cond_true]
    have:=zBG hnl h
    rw[zmo hρ (hw (d+30000) (by simp only[Out.writes,List.mem_append]; exact .inl this)) hL]
    exact h
  | false =>
  rw[hnl,cond_false]at h
  rw[cond_false]
  rw[zED (L:=L) (L':=L') hρ hL]
  split
  · rename_i e
    rw[e]at h
    rw[zmo hρ hd hL]; exact h
  · rename_i n r e
    rw[e]at h
    simp only at h
    generalize n :: r=ns at h
    obtain ⟨o1,h1,h⟩:=Option.bind_eq_some_iff.1 h
    split at h
    · rename_i hok
      cases h
      have hns:∀ n ∈ ns,L' n=L n:=fun n hn=>hw n (by simp[Out.writes,zcv,fzC,hn])
      have hup:∀ p ∈ o1.upd,L' p.1=L p.1:=fun p hp=>hw p.1 (by simp only[Out.writes,List.mem_append]; exact .inl (List.mem_map.2 ⟨p,hp,rfl⟩))
      refine Option.bind_eq_some_iff.2 ⟨o1,?_,?_⟩
      · rw[←h1]
        refine zmo (L:=cutL ns L) (L':=cutL ns L') (fun x hx=>?_) ?_ (fun x hx n hn=>?_)
        · rw[hρ x hx]; exact zxC (hL x hx)
        · unfold cutL; rw[hd]
        · unfold cutL; rw[hL x hx n (zyo n hn)]
      · have hok':fzOK L' ns o1=true:=by
          unfold fzOK at hok ⊢
          simp only[Bool.and_eq_true,List.all_eq_true]at hok ⊢
          exact ⟨⟨fun n hn=>by rw[hns n hn]; exact hok.1.1 n hn,fun p hp=>by rw[hup p hp]; exact hok.1.2 p hp⟩,hok.2⟩
        rw[if_pos hok']
    · cases h
theorem zBJ (P:Program) (t:TypeId):(zAj P t).names=[]:=by
  rcases zsm P t with ⟨k,h⟩ | ⟨s,h⟩ | h<;>rw[h]<;>rfl
theorem zoO {P:Program} {ρ:Operand→A}:∀ {xs:List Operand} {ts:List TypeId} {y:A},y ∈ zm8 P ρ xs ts→(∃ x ∈ xs,y=ρ x)∨y.names=[]
  | [],_,y,h=>by cases h
  | x :: xs,[],y,h=>by
    rcases List.mem_cons.1 h with h | h
    · exact .inl ⟨x,by simp,h⟩
    · exact (zoO h).imp (fun ⟨z,hz,e⟩=>⟨z,by simp[hz],e⟩) id
  | x :: xs,t :: ts,y,h=>by
    rcases List.mem_cons.1 h with h | h
    · cases hn:zbx x with
      | true=>rw[hn]at h; subst h; exact .inr (zBJ P t)
      | false=>rw[hn]at h; exact .inl ⟨x,by simp,h⟩
    · exact (zoO h).imp (fun ⟨z,hz,e⟩=>⟨z,by simp[hz],e⟩) id
theorem znN {n:Nat}:∀ {l ns:List Nat},n ∈ addN ns l↔n ∈ ns∨n ∈ l
  | [],ns=>by simp[addN]
  | m :: r,ns=>by
    unfold addN
    cases hq:memN m ns with
    | true =>
      simp only[cond_true]
      rw[znN,List.mem_cons]
      constructor
      · rintro (h | h)
        · exact .inl h
        · exact .inr (.inr h)
      · rintro (h | h | h)
        · exact .inl h
        · subst h; exact .inl (zbn.1 hq)
        · exact .inr h
    | false =>
      simp only[cond_false]
      rw[znN]
      simp[or_assoc]
theorem zpq {ns:List Nat} (h:∀ n ∈ ns,L' n=L n):zul L' ns=zul L ns:=by
  unfold zul
  have:ns.flatMap (zB8 L')=ns.flatMap (zB8 L):=by
    induction ns with
    | nil=>rfl
    | cons n r ih =>
      rw[List.flatMap_cons,List.flatMap_cons,ih fun m hm=>h m (by simp[hm])]
      unfold zB8
      rw[h n (by simp)]
  rw[this]
theorem zpe {f:Nat→Nat}:∀ {l:List Nat},(∀ n ∈ l,L' n=L n)→zeJ f L' l=zeJ f L l
  | [],_=>rfl
  | n :: r,h=>by
    unfold zeJ
    rw[h n (by simp),zpe fun m hm=>h m (by simp[hm])]
theorem zAV {rn:List Nat} (h:∀ n ∈ rn,L' n=L n):ziD rn L'=ziD rn L:=by
  funext n
  unfold ziD
  cases hq:memN n rn with
  | false=>rfl
  | true=>exact h n (zbn.1 hq)
theorem zkV {ns rn:List Nat} (h:ziD rn L'=ziD rn L):∀ (ms:List Bool) (xs:List A),mixA ns rn L' ms xs=mixA ns rn L ms xs
  | [],[]=>rfl
  | _ :: _,[]=>rfl
  | true :: ms,x :: xs=>by simp only[mixA]; rw[zkV h ms xs]
  | false :: ms,x :: xs=>by simp only[mixA]; rw[zkV h ms xs,h]
  | [],x :: xs=>by simp only[mixA]; rw[zkV h [] xs,h]
theorem zo4 {ns:List Nat} (h:∀ n ∈ ns,L' n=L n):zhO L' ns=zhO L ns:=by
  unfold zhO
  induction ns with
  | nil=>rfl
  | cons n r ih =>
    rw[List.all_cons,List.all_cons,h n (by simp)]
    have:∀ (q:List Nat),True:=fun _=>trivial
    congr 1
    clear this
    have gen:∀ (is:Bool→Nat→List PE→Bool) (l:List Nat),(∀ m ∈ l,L' m=L m)→(l.all fun n=>match L' n with | some b=>b.all is | none=>false)=l.all fun n=>match L n with | some b=>b.all is | none=>false:=by
      intro is l
      induction l with
      | nil=>intro _; rfl
      | cons m l ih=>intro hl; rw[List.all_cons,List.all_cons,hl m (by simp),ih fun q hq=>hl q (by simp[hq])]
    exact gen _ r fun m hm=>h m (by simp[hm])
theorem zyX {bl:List (Nat × Blk)} {x y:A} (h:∀ n ∈ x.names,L' n=L n):zgK L' bl x y=zgK L bl x y:=by
  cases x with
  | o n=>cases y<;>simp only[zgK]; rw[h n (by simp[A.names])]
  | p n π=>cases y<;>simp only[zgK]; rw[h n (by simp[A.names])]
  | _=>rfl
theorem zh0 {r:CallOut}:∀ (i:Nat) (ms:List Bool) (xs:List A),(∀ x ∈ zoe ms xs,∀ n ∈ x.names,L' n=L n)→zaO L' r i ms xs=zaO L r i ms xs
  | i,true :: ms,x :: xs,h=>by
    unfold zaO
    rw[zh0 (i+1) ms xs fun y hy=>h y (by simp[zoe,hy])]
    cases lk r.roots i with
    | none=>rfl
    | some y =>
      simp only[Option.bind_some]
      rw[zyX (h x (by simp[zoe]))]
  | i,false :: ms,x :: xs,h=>by
    unfold zaO
    rw[zh0 (i+1) ms xs fun y hy=>h y (by simpa [zoe] using hy)]
  | _,[],_,_=>by simp[zaO]
  | _,true :: _,[],_=>by simp[zaO]
  | _,false :: _,[],_=>by simp[zaO]
theorem znC {x:A}:∀ {ms:List Bool} {xs:List A},x ∈ zoe ms xs→x ∈ xs
  | true :: ms,y :: xs,h=>by
    rcases List.mem_cons.1 h with h | h
    · simp[h]
    · simp[znC h]
  | false :: ms,y :: xs,h=>by simp[znC (ms:=ms) (xs:=xs) h]
  | [],_,h=>by simp[zoe]at h
  | true :: _,[],h=>by simp[zoe]at h
  | false :: _,[],h=>by simp[zoe]at h
theorem zss {x:A}:∀ {ms:List Bool} {xs:List A},x ∈ zAZ ms xs→x ∈ xs
  | true :: ms,y :: xs,h=>by simp[zss (ms:=ms) (xs:=xs) h]
  | false :: ms,y :: xs,h=>by
    rcases List.mem_cons.1 h with h | h
    · simp[h]
    · simp[zss h]
  | [],xs,h=>by simpa [zAZ] using h
  | true :: _,[],h=>by simp[zAZ]at h
  | false :: _,[],h=>by simp[zAZ]at h
theorem zEO {rm:List (Nat × Nat)} {n:Nat}:(znq L rm n).1=n:=by
  unfold znq
  cases memN n (rm.map (·.2))<;>rfl
theorem zwd {d:Nat} {ms:List Bool} {cs:List A→List (Nat × Blk)→Option CallOut} {xs:List A} {out:Out} (h:zg6 L d ms cs xs=some out) (hL:∀ x ∈ xs,Same L L' x.names) (hw:∀ n ∈ out.writes,L' n=L n) :
    zg6 L' d ms cs xs=some out:=by
  have base:∀ n ∈ addN [] ((zoe ms xs).flatMap A.names),L' n=L n:=by
    intro n hn
    rw[znN]at hn
    rcases hn with hn | hn
    · cases hn
    · obtain ⟨x,hx,hn⟩:=List.mem_flatMap.1 hn
      exact hL x (znC hx) n hn
  have hrn:∀ n ∈ zvd ms xs,L' n=L n:=by
    intro n hn
    unfold zvd at hn
    rw[znN]at hn
    rcases hn with hn | hn
    · cases hn
    · obtain ⟨x,hx,hn⟩:=List.mem_flatMap.1 hn
      exact hL x (zss hx) n hn
  unfold zg6 at h
  split at h
  · rename_i hc
    obtain ⟨ys,hys,h⟩:=Option.bind_eq_some_iff.1 h
    obtain ⟨r,hr,h⟩:=Option.bind_eq_some_iff.1 h
    have hns:∀ n ∈ zhW L ms xs,L' n=L n:=by
      intro n hn
      refine hw n ?_
      unfold ztX at h
      split at h
      · cases h
        simp only[Out.writes,zcv,List.mem_append,List.map_map]
        refine .inr (List.mem_map.2 ⟨n,hn,?_⟩)
        exact zEO
      · cases h
    have hN:zhW L' ms xs=zhW L ms xs:=by
      unfold zhW at hns ⊢
      rw[zpq base]
      exact zpq fun n hn=>hns n (by unfold zul; rw[znN]; exact .inl hn)
    unfold zg6
    rw[hN,zo4 hns,zo4 hrn,zkV (zAV hrn),zpe hns,if_pos hc,hys,Option.bind_some,hr,Option.bind_some]
    have hH:∀ x ∈ zoe ms xs,∀ n ∈ x.names,L' n=L n:=fun x hx n hn=>hL x (znC hx) n hn
    unfold ztX at h ⊢
    rw[zh0 0 ms xs hH]
    split at h
    · rename_i hb
      cases h
      have hcut:(zhW L ms xs).map (znq L' (zaO L r 0 ms xs))=(zhW L ms xs).map (znq L (zaO L r 0 ms xs)):=by
        refine List.map_congr_left fun n hn=>?_
        unfold znq
        rw[hns n hn]
      have hfr:(r.blks.all fun p=>(lk (zaO L r 0 ms xs) p.1).isSome || (L' (imp d p.1)).isNone)=r.blks.all fun p=>(lk (zaO L r 0 ms xs) p.1).isSome || (L (imp d p.1)).isNone:=by
        have hup:∀ p ∈ r.blks,lk (zaO L r 0 ms xs) p.1=none→L' (imp d p.1)=L (imp d p.1):=by
          intro p hp hq
          refine hw _ ?_
          simp only[Out.writes,List.mem_append,List.map_map]
          have hp':∃ b,(p.1,b) ∈ fixB L (zaO L r 0 ms xs) r.blks:=⟨_,List.mem_map.2 ⟨p,hp,rfl⟩⟩
          obtain ⟨b,hp'⟩:=hp'
          refine .inl (List.mem_map.2 ⟨(p.1,b),hp',?_⟩)
          simp only[Function.comp_apply,gMap,hq]
        have gen:∀ (l:List (Nat × Blk)),(∀ p ∈ l,lk (zaO L r 0 ms xs) p.1=none→L' (imp d p.1)=L (imp d p.1)) →
            (l.all fun p=>(lk (zaO L r 0 ms xs) p.1).isSome || (L' (imp d p.1)).isNone)=l.all fun p=>(lk (zaO L r 0 ms xs) p.1).isSome || (L (imp d p.1)).isNone:=by
          intro l
          induction l with
          | nil=>intro _; rfl
          | cons p l ih =>
            intro hl
            rw[List.all_cons,List.all_cons,ih fun q hq=>hl q (by simp[hq])]
            cases hq:lk (zaO L r 0 ms xs) p.1 with
            | some _=>simp
            | none=>rw[hl p (by simp) hq]
        exact gen _ hup
      have hfx:fixB L' (zaO L r 0 ms xs) r.blks=fixB L (zaO L r 0 ms xs) r.blks:=by
        unfold fixB
        refine List.map_congr_left fun p _=>?_
        cases hq:lk (zaO L r 0 ms xs) p.1 with
        | none=>rfl
        | some n =>
          have hb':=hb
          simp only[Bool.and_eq_true,List.all_eq_true]at hb'
          have:=hb'.1.2 _ (zbH hq)
          simp only
          rw[hns n (zbn.1 this)]
      rw[hfr,hcut,hfx,if_pos hb]
    · cases h
  · cases h
theorem zmW {d:Nat} {cs:List A→Option CallOut} {xs:List A} {out:Out} (h:zgi L d cs xs=some out) (hsm:∀ x ∈ xs,Same L L' x.names) (hw:∀ n ∈ out.writes,L' n=L n):zgi L' d cs xs=some out:=by
  unfold zgi at h ⊢
  rw[zpY (L:=L) (L':=L') hsm]
  simp only[Option.bind_eq_some_iff]at h ⊢
  obtain ⟨ys,hys,r,hr,ho⟩:=h
  refine ⟨ys,hys,r,hr,?_⟩
  unfold zuV at ho ⊢
  split at ho
  · rename_i hc
    cases ho
    simp only[Bool.and_eq_true,List.all_eq_true,Option.isNone_iff_eq_none]at hc
    rw[if_pos]
    simp only[Bool.and_eq_true,List.all_eq_true,Option.isNone_iff_eq_none]
    refine ⟨hc.1,fun p hp=>?_⟩
    rw[hw (imp d p.1) (by simp only[Out.writes,zbI,List.map_map,zcv,List.map_nil,List.append_nil,List.mem_map]; exact ⟨p,hp,rfl⟩)]
    exact hc.2 p hp
  · cases ho
theorem zEj {ns:List Nat} {o1:Out} (hok:fzOK L ns o1=true) (hw:∀ n ∈ ({ val:=o1.val,upd:=o1.upd,cut:=fzC ns++o1.cut }:Out).writes,L' n=L n):fzOK L' ns o1=true∧∀ n ∈ ns,L' n=L n:=by
  have hns:∀ n ∈ ns,L' n=L n:=fun n hn=>hw n (by simp[Out.writes,zcv,fzC,hn])
  have hup:∀ p ∈ o1.upd,L' p.1=L p.1:=fun p hp=>hw p.1 (by simp only[Out.writes,List.mem_append]; exact .inl (List.mem_map.2 ⟨p,hp,rfl⟩))
  refine ⟨?_,hns⟩
  unfold fzOK at hok ⊢
  simp only[Bool.and_eq_true,List.all_eq_true]at hok ⊢
  exact ⟨⟨fun n hn=>by rw[hns n hn]; exact hok.1.1 n hn,fun p hp=>by rw[hup p hp]; exact hok.1.2 p hp⟩,hok.2⟩
theorem zvv {d:Nat} {cs:List A→Option CallOut} {xs:List A} {out:Out} (h:zjl L d cs xs=some out) (hsm:∀ x ∈ xs,Same L L' x.names) (hw:∀ n ∈ out.writes,L' n=L n):zjl L' d cs xs=some out:=by
  have hx:∀ n ∈ A.namesL xs,L' n=L n:=fun n hn=>by
    obtain ⟨x,h1,h2⟩:=zoF hn
    exact hsm x h1 n h2
  unfold zjl at h ⊢
  rw[zen hx]
  generalize zbg L xs=ns at h
  obtain ⟨o1,h1,h⟩:=Option.bind_eq_some_iff.1 h
  split at h
  · rename_i hok
    cases h
    obtain ⟨hok',hns⟩:=zEj hok hw
    refine Option.bind_eq_some_iff.2 ⟨o1,?_,?_⟩
    · rw[zse hx]
      refine zmW h1 (fun x hx' n hn=>?_) (fun n hn=>?_)
      · have:n ∈ A.namesL (fzL L ns xs):=by
          clear h1 hok hok' hsm
          generalize fzL L ns xs=ys at hx'
          induction ys with
          | nil=>cases hx'
          | cons y ys ih =>
            simp only[A.namesL,List.mem_append]
            rcases List.mem_cons.1 hx' with rfl | hx'
            · exact .inl hn
            · exact .inr (ih hx')
        unfold cutL
        rw[hx n (zrK n this)]
      · unfold cutL
        rw[hw n (by simp only[Out.writes,List.mem_append,zcv,List.map_append]at hn ⊢; exact hn.imp id .inr)]
    · rw[if_pos hok']
  · cases h
theorem zxM {n:Nat} {x:A}:∀ {xs:List A},x ∈ xs→n ∈ x.names→n ∈ A.namesL xs
  | y :: ys,hx,hn=>by
    simp only[A.namesL,List.mem_append]
    rcases List.mem_cons.1 hx with rfl | hx
    · exact .inl hn
    · exact .inr (zxM hx hn)
theorem zxX {C:Cfg} {ρ ρ':Operand→A} {d:Nat} {o:Oper} {out:Out} (h:znA C L d ρ o=some out) (hρ:∀ x ∈ o.op.operands,ρ' x=ρ x) (hd:L' d=L d) (hL:∀ x ∈ o.op.operands,Same L L' (ρ x).names)
    (hw:∀ n ∈ out.writes,L' n=L n):znA C L' d ρ' o=some out:=by
  unfold znA at h ⊢
  split
  · rename_i c hop
    rw[hop]at h
    simp only at h
    split
    · rename_i b hb
      rw[hb]at h
      simp only at h
      exact zpn h hρ hd hL hw
    · rename_i hnb
      have h:((zfq ρ c).bind fun g=>bif exB C.P g then zxj (extK C.P g) (zaU C.P ρ c)else bif(C.sig g).isEmpty then zgi L d (fun ys=>C.cs g ys []) (zaU C.P ρ c)
      else bif anyT (C.sig g)then zg6 L d (C.sig g) (C.cs g) (zaU C.P ρ c)
      else zjl L d (fun ys=>C.cs g ys []) (zaU C.P ρ c))=some out:=by
        split at h
        · rename_i b hb; exact (hnb b hb).elim
        · exact h
      simp only[hop,Op.operands,Call.operands]at hρ hL
      have hcap:zr0 ρ' c=zr0 ρ c:=by
        unfold zr0
        split
        · rename_i f hf
          rw[hρ f (by simp[hf])]
        · rfl
      have hm:zaU C.P ρ' c=zaU C.P ρ c:=by
        unfold zaU
        rw[hcap,zj6 fun x hx=>hρ x (by simp only[Array.mem_append]; right; simpa using hx)]
      have hcl:zfq ρ' c=zfq ρ c:=by
        unfold zfq
        split
        · rename_i f hf
          rw[hρ f (by simp[hf])]
        · rfl
      have hsm:∀ x ∈ zaU C.P ρ c,Same L L' x.names:=fun x hx=>by
        unfold zaU at hx
        rcases List.mem_append.1 hx with hx | hx
        · rcases zoO hx with ⟨z,hz,rfl⟩ | hx
          · exact hL z (by simp only[Array.mem_append]; right; simpa using hz)
          · rw[hx]; exact fun n hn=>by cases hn
        · unfold zr0 at hx
          split at hx
          · rename_i f hf
            have hLf:=hL f (by simp[hf])
            split at hx
            · rename_i g cs hfv
              rw[hfv]at hLf
              exact fun n hn=>hLf n (by simp only[A.names]; exact zxM hx hn)
            · cases hx
          · cases hx
      rw[hm,hcl]
      obtain ⟨g,hg,h⟩:=Option.bind_eq_some_iff.1 h
      refine Option.bind_eq_some_iff.2 ⟨g,hg,?_⟩
      cases hex:exB C.P g with
      | true=>rw[hex]at h; exact h
      | false =>
      rw[hex,cond_false]at h
      rw[cond_false]
      cases hsig:(C.sig g).isEmpty with
      | false =>
        rw[hsig]at h
        simp only[cond_false]at h ⊢
        cases hany:anyT (C.sig g) with
        | true =>
          rw[hany]at h
          exact zwd h hsm hw
        | false =>
          rw[hany]at h
          exact zvv h hsm hw
      | true =>
        rw[hsig]at h
        exact zmW h hsm hw
  · rename_i hnc
    split at h
    · rename_i c hop; exact (hnc c hop).elim
    · exact zpn h hρ hd hL hw
theorem zDO {ρ ρ':Operand→A} {d:Nat} {o:Oper} {out:Out} (h:opMv P L d ρ o=some out) (hρ:∀ x ∈ o.op.operands,ρ' x=ρ x) (hL:∀ x ∈ o.op.operands,Same L L' (ρ x).names)
    (hw:∀ n ∈ out.writes,L' n=L n):opMv P L' d ρ' o=some out:=by
  unfold opMv at h ⊢
  split at h
  · rename_i t hop
    unfold zlb at h ⊢
    obtain ⟨z,hz,h⟩:=Option.bind_eq_some_iff.1 h
    obtain ⟨rc,hrc,h⟩:=Option.bind_eq_some_iff.1 h
    rw[hz,Option.bind_some,hrc,Option.bind_some]
    split at h
    · rename_i h1 h2
      cases h
      have e1:=hw d (by simp[Out.writes])
      have e2:=hw (imp d 0) (by simp[Out.writes])
      rw[e1,e2,h1,h2]
    · cases h
  · rename_i t x hop
    rw[hop]at hρ hL
    have hx:x ∈ (Op.load t x).operands:=by simp[Op.operands]
    rw[hρ x hx]
    have hL:=hL x hx
    unfold zvC at h ⊢
    split at h
    · rename_i n π hx
      rw[hx]at hL
      rw[hL n (by simp[A.names])]
      exact h
    · cases h
  · rename_i t ps hop
    rw[hop]at hρ
    have hm:(ps.toList.map fun p=>(p.1,ρ' p.2))=ps.toList.map fun p=>(p.1,ρ p.2):=List.map_congr_left fun p hp=>by
      rw[hρ p.2 (by simp only[Op.operands]; simp; exact ⟨p.1,by simpa using hp⟩)]
    rw[hm]
    unfold zk0 at h ⊢
    split at h
    · obtain ⟨pl,hpl,h⟩:=Option.bind_eq_some_iff.1 h
      obtain ⟨y,hy,h⟩:=Option.bind_eq_some_iff.1 h
      rename_i zs fs hz hu
      simp only[hz,hu,hpl,Option.bind_some,hy]
      split at h
      · rename_i hfree
        cases h
        rw[if_pos]
        rw[List.all_eq_true]at hfree ⊢
        intro p hp
        rw[hw p.1 (by simp only[Out.writes,List.mem_append]; exact .inl (List.mem_map_of_mem hp))]
        exact hfree p hp
      · cases h
    · cases h
  · cases h
theorem zf8 {x:A} (h:Same L L' x.names):zmU L' x=zmU L x:=by
  cases x with
  | o n=>simp only[zmU]; rw[h n (by simp[A.names])]
  | _=>rfl
theorem zs2 {t:TypeId} {x i:A} {ok:Bool} (h:Same L L' x.names):zh3 P L' t x i ok=zh3 P L t x i ok:=by unfold zh3; rw[zf8 h]
theorem zhP {t:TypeId} {x i v:A} (h:Same L L' x.names):zci P L' t x i v=zci P L t x i v:=by unfold zci; rw[zf8 h]
theorem zln {t:TypeId} {x:A} {b:Bool} (h:Same L L' x.names):zib P L' t x b=zib P L t x b:=by
  have e:=zf8 (L:=L) (L':=L') h
  unfold zib
  split
  · cases x with
    | pv z=>cases z<;>rfl
    | o n=>simp only; rw[e]
    | _=>rfl
  · rfl
theorem zwX {ts:List TypeId} {xs:List A} (h:∀ x ∈ xs,Same L L' x.names):zod P L' ts xs=zod P L ts xs:=by
  unfold zod
  split
  · rename_i t x
    rw[zf8 (h x (by simp))]
  · rfl
theorem ztp {ts:List TypeId} {xs:List A} (h:∀ x ∈ xs,Same L L' x.names):zh1 P L' ts xs=zh1 P L ts xs:=by
  unfold zh1
  split
  · rename_i t r x q
    rw[zf8 (h x (by simp))]
  · rfl
theorem zBw {ρ ρ':Operand→A} {d:Nat} {o:Oper} {out:Out} (h:znG P L d ρ o=some out) (hρ:∀ x ∈ o.op.operands,ρ' x=ρ x) (hd:L' d=L d) (hL:∀ x ∈ o.op.operands,Same L L' (ρ x).names) (hw:∀ n ∈ out.writes,L' n=L n):znG P L' d ρ' o=some out:=by
  unfold znG at h ⊢
  split at h
  · unfold zns at h ⊢
    rw[zcD hd]; exact h
  · rename_i t x i ok hop
    rw[hop]at hρ hL
    rw[hρ x (by simp[Op.operands]),hρ i (by simp[Op.operands]),zs2 (hL x (by simp[Op.operands]))]
    exact h
  · rename_i t m q v hop
    rw[hop]at hρ hL
    rw[hρ m (by simp[Op.operands]),hρ q (by simp[Op.operands]),hρ v (by simp[Op.operands]),zhP (hL m (by simp[Op.operands]))]
    exact h
  · rename_i t m q v hop
    rw[hop]at hρ hL
    rw[hρ m (by simp[Op.operands]),hρ q (by simp[Op.operands]),hρ v (by simp[Op.operands]),zhP (hL m (by simp[Op.operands]))]
    exact h
  · rename_i t x y z hop
    rw[hop]at hρ hL
    rw[hρ x (by simp[Op.operands]),zln (hL x (by simp[Op.operands]))]
    exact h
  · rename_i t x y z hop
    rw[hop]at hρ hL
    rw[hρ x (by simp[Op.operands]),zln (hL x (by simp[Op.operands]))]
    exact h
  · rename_i t x y hop
    rw[hop]at hρ hL
    rw[hρ x (by simp[Op.operands])]
    split at h
    · rename_i hn
      rw[if_pos hn]
      unfold zk3 at h ⊢
      split at h
      · rename_i n j hx
        have hLn:L' n=L n:=hL x (by simp[Op.operands]) n (by rw[hx]; simp[A.names])
        obtain ⟨b,hb,h⟩:=Option.bind_eq_some_iff.1 h
        obtain ⟨rc,hrc,h⟩:=Option.bind_eq_some_iff.1 h
        simp only[hLn,hb,hrc,Option.bind_some]
        split at h
        · rename_i hc
          obtain ⟨b',hb',e⟩:=Option.map_eq_some_iff.1 h
          subst e
          have hw2:=hw (imp n (j+1)) (by simp[Out.writes])
          rw[hw2,if_pos hc,hb']
          rfl
        · cases h
      · cases h
    · cases h
  · rename_i c hop
    rw[hop]at hρ hL
    split at h
    · rename_i hc
      have hm:c.args.toList.map ρ'=c.args.toList.map ρ:=List.map_congr_left fun x hx=>hρ x (by simp only[Op.operands,Call.operands,Array.mem_append]; right; simpa using hx)
      rw[hm,zwX (L:=L)]
      · exact h
      · intro x hx
        obtain ⟨z,hz,rfl⟩:=List.mem_map.1 hx
        exact hL z (by simp only[Op.operands,Call.operands,Array.mem_append]; right; simpa using hz)
    · rename_i hc
      have hm:c.args.toList.map ρ'=c.args.toList.map ρ:=List.map_congr_left fun x hx=>hρ x (by simp only[Op.operands,Call.operands,Array.mem_append]; right; simpa using hx)
      rw[hm,ztp (L:=L)]
      · exact h
      · intro x hx
        obtain ⟨z,hz,rfl⟩:=List.mem_map.1 hx
        exact hL z (by simp only[Op.operands,Call.operands,Array.mem_append]; right; simpa using hz)
    · cases h
  · cases h
theorem zCZ {ρ ρ':Operand→A} {mj:Nat × Nat} {d:Nat} {o:Oper} {out:Out} (h:opAp P L mj d ρ o=some out) (hρ:∀ x ∈ o.op.operands,ρ' x=ρ x) (hd:L' d=L d) (hL:∀ x ∈ o.op.operands,Same L L' (ρ x).names)
    (hw:∀ n ∈ out.writes,L' n=L n):opAp P L' mj d ρ' o=some out:=by
  unfold opAp at h ⊢
  split at h
  · rename_i c hop
    rw[hop]at hρ hL
    split at h
    · rename_i x y t t1 hc hargs htys
      have hx:x ∈ (Op.call c).operands:=by
        simp only[Op.operands,Call.operands,Array.mem_append]
        right
        have:x ∈ c.args.toList:=by rw[hargs]; simp
        simpa using this
      have hy:y ∈ (Op.call c).operands:=by
        simp only[Op.operands,Call.operands,Array.mem_append]
        right
        have:y ∈ c.args.toList:=by rw[hargs]; simp
        simpa using this
      obtain ⟨b,hb,h⟩:=Option.bind_eq_some_iff.1 h
      obtain ⟨b',hs,h⟩:=Option.bind_eq_some_iff.1 h
      split at h
      · rename_i hh
        obtain ⟨out0,ha,rfl⟩:=Option.map_eq_some_iff.1 h
        have em:L' mj.1=L mj.1:=hw mj.1 (by simp[Out.writes,zvr])
        have eu:∀ n,L' n=L n→upd L' mj.1 (some b') n=upd L mj.1 (some b') n:=fun n hn=>by
          simp only[upd]
          split
          · rfl
          · exact hn
        rw[hρ x hx,hρ y hy]
        simp only[em,hb,Option.bind_some,hs,if_pos hh]
        have e:=zlF (P:=P) (L:=upd L mj.1 (some b')) (L':=upd L' mj.1 (some b')) (d:=d) (t:=t) (t1:=t1) (nilc:=zbx x) (x:=ρ x) (y:=ρ y) (eu d hd) (fun n hn=>eu n (hL x hx n hn)) (fun n hn=>eu n (hL y hy n hn))
        rw[e,ha]
        rfl
      · cases h
    · cases h
  · cases h
theorem zBp {C:Cfg} {ρ ρ':Operand→A} {d:Nat} {o:Oper} {out:Out} (h:zrC C L d ρ o=some out) (hρ:∀ x ∈ o.op.operands,ρ' x=ρ x) (hd:L' d=L d) (hL:∀ x ∈ o.op.operands,Same L L' (ρ x).names)
    (hw:∀ n ∈ out.writes,L' n=L n):zrC C L' d ρ' o=some out:=by
  unfold zrC at h ⊢
  cases hmv:memN d C.mv with
  | true=>rw[hmv,cond_true]at h; exact zDO h hρ hL hw
  | false =>
    rw[hmv,cond_false]at h
    rw[cond_false]
    cases hap:zut C.mv d with
    | some mj =>
      rw[hap]at h
      simp only at h ⊢
      exact zCZ h hρ hd hL hw
    | none =>
    rw[hap]at h
    simp only at h ⊢
    cases hmp:mapB o with
    | true=>rw[hmp,cond_true]at h; exact zBw h hρ hd hL hw
    | false=>rw[hmp,cond_false]at h; exact zxX h hρ hd hL hw
end
end Go.Proofs.YtnolgfdjcipmmaaDoor.M
namespace Go.Proofs.YtnolgfdjcipmmaaDoor.M
open Go
def act (C:Cfg) (ops:Array Oper) (e:Nat→A) (L:Nat→Option Blk) (o:Oper):Option Out :=
  (zfJ ops e o).bind fun b=>bif b then zrC C L (o.dst.getD 0) (zhC C.G e) o else some { val:=.und }
def Hall (out:Out) (L:Nat→Option Blk):Prop:=∀ m b,out.mem L m=some b→b.all (zai out.cut)=true
def FAct (C:Cfg) (ops:Array Oper) (o:Oper) (e:Nat→A) (L:Nat→Option Blk) (out:Out) (e':Nat→A) (L':Nat→Option Blk):Prop :=
  act C ops e L o=some out∧zH3 C o∧Hall out L∧e'=putF (fun t=>zde out.cut (e t)) o.dst out.val∧L'=out.mem L
theorem zxA (x:A):zde [] x=x:=by unfold zde; rw[show x.all (zai [])=true from A.all_true _]; rfl
theorem FAct.step {C:Cfg} {ops:Array Oper} {i:Nat} {o:Oper} {e e':Nat→A} {L L':Nat→Option Blk} {out:Out} (hi:ops[i]?=some o) (h:FAct C ops o e L out e' L'):FStep C ops i e L e' L':=by
  obtain ⟨h1,h2,h3,h4,h5⟩:=h
  simp only[act,Option.bind_eq_some_iff]at h1
  obtain ⟨b,hb,h1⟩:=h1
  refine ⟨o,b,hi,hb,h2,fun ht=>?_,fun hf=>?_⟩
  · subst ht
    exact ⟨out,h1,h3,h4,h5⟩
  · subst hf
    simp only[cond_false,Option.some.injEq]at h1
    subst h1
    refine ⟨?_,by rw[h5,zAk]⟩
    rw[h4]
    congr 1
    funext t
    exact zxA _
structure Ent where
  d:Option Nat
  R:List Nat
  N:List Nat
  W:List Nat
  V:List A:=[]
  X:List (Nat × Option (List PE)):=[]
def zpj (o:Oper):Bool:=match o.op with
  | .move (.tmp _)=>true
  | _=>false
structure Told (ops:Array Oper) (o:Oper) (e:Nat→A) (L:Nat→Option Blk) (out:Out) (a:Ent):Prop where
  d:a.d=o.dst
  r:∀ t ∈ o.looksAt ops,t ∈ a.R∧e t≠.bad∧((∀ n ∈ (e t).names,n ∈ a.N)∨e t ∈ a.V)
  v:(∀ n ∈ out.val.names,n ∈ a.N)∨out.val ∈ a.V
  m:zpj o=true∨∀ t ∈ o.looksAt ops,∀ n ∈ (e t).names,n ∈ a.N
  x:a.X=out.cut
  u:∀ m b,lk out.upd m=some b→∀ n ∈ b.names,n ∈ a.N
  w:∀ n ∈ out.writes,n ∈ a.W
  wn:∀ n ∈ a.W,n ∈ a.N
  old:∀ m ∈ a.W,∀ b,L m=some b→∀ n ∈ b.names,n ∈ a.N
  dn:o.dst.getD 0 ∈ a.N
structure Indep (a b:Ent):Prop where
  dr:∀ d,a.d=some d→d ∉ b.R∧b.d≠some d
  rd:∀ d,b.d=some d→d ∉ a.R
  wn:∀ n ∈ a.W,n ∉ b.N
  nw:∀ n ∈ b.W,n ∉ a.N
  vx:∀ x ∈ a.V,x.all (zai b.X)=true
  xv:∀ x ∈ b.V,x.all (zai a.X)=true
section
variable {C:Cfg} {ops:Array Oper} {L L':Nat→Option Blk} {e e':Nat→A}
theorem zfN {o:Out} {m:Nat} {b:Blk}:o.mem L m=some b↔zaS o.cut m=false∧(lk o.upd m=some b∨lk o.upd m=none∧L m=some b):=by
  unfold Out.mem
  cases zaS o.cut m with
  | true=>simp
  | false =>
    simp only[Bool.false_eq_true,if_false,true_and]
    cases lk o.upd m<;>simp
theorem zur {α:Type}:∀ {l:List (Nat × α)} {n:Nat},n ∉ l.map (·.1)→lk l n=none
  | [],_,_=>rfl
  | (m,x) :: l,n,h=>by
    rw[zaw,if_neg (fun e=>h (by simp[e])),zur (fun q=>h (by simp at q ⊢; exact .inr q))]
theorem zx5 {c:List (Nat × Option (List PE))} {n:Nat} (h:n ∉ zcv c):zaS c n=false:=by
  unfold zaS
  rw[List.any_eq_false]
  intro x hx
  have hne:n≠x.1:=fun q=>h (by rw[q]; exact List.mem_map_of_mem hx)
  obtain ⟨a,b⟩:=x
  cases b with
  | none =>
    simp only
    intro hq
    exact hne (nbeq.1 hq)
  | some π=>simp
theorem ziH {o:Out} {n:Nat} (h:n ∉ o.writes):o.mem L n=L n:=by
  have h1:lk o.upd n=none:=zur fun q=>h (List.mem_append_left _ q)
  have h2:zaS o.cut n=false:=zx5 fun q=>h (List.mem_append_right _ q)
  unfold Out.mem
  rw[h1,h2]; rfl
theorem zxw (v:Value):(zrm v).names=[]:=by
  unfold zrm
  split<;>first | rfl | (split<;>rfl)
theorem zBj {G:Nat→Option PV} (x:Operand) (h:∀ t,x≠.tmp t):(zhC G e x).names=[]:=by
  cases x with
  | tmp t=>exact absurd rfl (h t)
  | const v=>exact zxw v
  | global g=>simp only[zhC]; split<;>rfl
  | func f=>rfl
theorem zCt {o:Oper} {t:Nat} (h:Operand.tmp t ∈ o.op.operands):t ∈ o.looksAt ops:=by
  unfold Oper.looksAt
  refine List.mem_append_left _ (List.mem_filterMap.2 ⟨.tmp t,by simpa using h,rfl⟩)
theorem zzY {o:Oper} (h:∀ t ∈ o.looksAt ops,e' t=e t):zfJ ops e' o=zfJ ops e o:=by
  unfold zfJ
  split
  · rfl
  · rename_i j want hg
    split
    · rfl
    · rename_i g hj
      rw[h g (List.mem_append_right _ (by rw[hg]; simp[hj]))]
theorem zC2 {C:Cfg} {ρ ρ':Operand→A} {d:Nat} {o:Oper} {out:Out} (hp:zpj o=true) (h:zrC C L d ρ o=some out) (hρ:∀ x ∈ o.op.operands,ρ' x=ρ x):zrC C L' d ρ' o=some out:=by
  unfold zpj at hp
  split at hp
  · rename_i t ht
    have hx:ρ' (.tmp t)=ρ (.tmp t):=hρ _ (by rw[ht]; simp[Op.operands])
    unfold zrC opMv opAp mapB znA zjw siB nilN at h ⊢
    simp only[ht,fzN,za6,zbx,Bool.false_and,cond_false]at h ⊢
    rw[hx]
    exact h
  · cases hp
theorem zyA {o:Oper} {out:Out} {a:Ent} (h:act C ops e L o=some out) (T:Told ops o e L out a) (he:∀ t ∈ o.looksAt ops,e' t=e t) (hL:∀ n ∈ a.N,L' n=L n):act C ops e' L' o=some out:=by
  simp only[act,Option.bind_eq_some_iff]at h ⊢
  obtain ⟨b,hb,h⟩:=h
  refine ⟨b,by rw[zzY he]; exact hb,?_⟩
  cases b with
  | false=>exact h
  | true =>
    simp only[cond_true]at h ⊢
    have hρ:∀ x ∈ o.op.operands,zhC C.G e' x=zhC C.G e x:=fun x hx=>zAT fun t ht=>he t (zCt (by rw[←ht]; exact hx))
    rcases T.m with hm | hm
    · exact zC2 hm h hρ
    refine zBp h hρ (hL _ T.dn) (fun x hx n hn=>hL n ?_) (fun n hn=>hL n (T.wn n (T.w n hn)))
    by_cases ht:∃ t,x=.tmp t
    · obtain ⟨t,rfl⟩:=ht
      exact hm t (zCt hx) n hn
    · rw[zBj x (fun t e=>ht ⟨t,e⟩)]at hn
      cases hn
theorem zwp {c:List (Nat × Option (List PE))} {x:A} (h:∀ n ∈ x.names,n ∉ zcv c):zde c x=x:=by
  unfold zde; rw[A.all_of x h]; rfl
theorem zoL {c:List (Nat × Option (List PE))} {x:A} (h:x.all (zai c)=true):zde c x=x:=by
  unfold zde; rw[h]; rfl
theorem zGx {c:List (Nat × Option (List PE))} {x:A} (h:zde c x≠.bad):zde c x=x:=by
  unfold zde at *
  cases hx:x.all (zai c) with
  | true=>rfl
  | false=>rw[hx]at h; exact absurd rfl h
theorem zDb (c d:List (Nat × Option (List PE))) (x:A):zde c (zde d x)=zde d (zde c x):=by
  unfold zde
  cases h1:x.all (zai c)<;>cases h2:x.all (zai d)<;>simp[h1,h2,A.all]
theorem zlV {d:Option Nat} {x:A} {t:Nat} (h:d≠some t):putF e d x t=e t:=by
  cases d with
  | none=>rfl
  | some d =>
    simp only[putF]
    have:Nat.beq t d=false:=by
      cases hq:Nat.beq t d with
      | false=>rfl
      | true=>exact absurd (by rw[nbeq.1 hq]) h
    rw[this]; rfl
theorem zvw {d:Nat} {x:A}:putF e (some d) x d=x:=by simp[putF]
theorem swap {oi oj:Oper} {e1 e2:Nat→A} {L1 L2:Nat→Option Blk} {A B:Out} {a b:Ent} (hi:FAct C ops oi e L A e1 L1) (Ti:Told ops oi e L A a) (hj:FAct C ops oj e1 L1 B e2 L2) (Tj:Told ops oj e1 L1 B b)
    (I:Indep a b):∃ e1' L1',FAct C ops oj e L B e1' L1'∧Told ops oj e L B b∧FAct C ops oi e1' L1' A e2 L2∧Told ops oi e1' L1' A a:=by
  obtain ⟨i1,i2,i3,rfl,rfl⟩:=hi
  obtain ⟨j1,j2,j3,rfl,rfl⟩:=hj
  have hcA:∀ n,n ∈ zcv A.cut→n ∈ a.W:=fun n hn=>Ti.w n (List.mem_append_right _ hn)
  have hcB:∀ n,n ∈ zcv B.cut→n ∈ b.W:=fun n hn=>Tj.w n (List.mem_append_right _ hn)
  have f1:∀ t ∈ oj.looksAt ops,e t=putF (fun t=>zde A.cut (e t)) oi.dst A.val t:=by
    intro t ht
    obtain ⟨q1,q2,q3⟩:=Tj.r t ht
    have hne:oi.dst≠some t:=by
      intro h
      exact (I.dr t (by rw[Ti.d]; exact h)).1 q1
    rw[zlV hne]at q2 ⊢
    exact (zGx q2).symm
  have f2:∀ n ∈ b.N,L n=A.mem L n:=fun n hn=>(ziH fun h=>I.wn n (Ti.w n h) hn).symm
  have g1:act C ops e L oj=some B:=zyA j1 Tj f1 f2
  have g3:Hall B L:=by
    intro m x hm
    obtain ⟨k1,k2⟩:=zfN.1 hm
    rcases k2 with k2 | ⟨k2,k3⟩
    · exact j3 m x (zfN.2 ⟨k1,.inl k2⟩)
    · by_cases hw:m ∈ A.writes
      · exact Blk.all_of x fun n hn hc=>I.nw n (hcB n hc) (Ti.old m (Ti.w m hw) x k3 n hn)
      · exact j3 m x (zfN.2 ⟨k1,.inr ⟨k2,by rw[ziH hw]; exact k3⟩⟩)
  have Tj':Told ops oj e L B b:=by
    refine { Tj with r:=fun t ht=>?_,m:=?_,old:=fun m hm x hx=>?_ }
    · rw[f1 t ht]; exact Tj.r t ht
    · exact Tj.m.imp id fun h t ht=>by rw[f1 t ht]; exact h t ht
    · rw[f2 m (Tj.wn m hm)]at hx; exact Tj.old m hm x hx
  have f3:∀ t ∈ oi.looksAt ops,putF (fun t=>zde B.cut (e t)) oj.dst B.val t=e t:=by
    intro t ht
    obtain ⟨q1,q2,q3⟩:=Ti.r t ht
    have hne:oj.dst≠some t:=by
      intro h
      exact I.rd t (by rw[Tj.d]; exact h) q1
    rw[zlV hne]
    rcases q3 with q3 | q3
    · exact zwp fun n hn hc=>I.nw n (hcB n hc) (q3 n hn)
    · exact zoL (Tj.x ▸ I.vx _ q3)
  have f4:∀ n ∈ a.N,B.mem L n=L n:=fun n hn=>ziH fun h=>I.nw n (Tj.w n h) hn
  have g4:act C ops (putF (fun t=>zde B.cut (e t)) oj.dst B.val) (B.mem L) oi=some A:=zyA i1 Ti f3 f4
  have g5:Hall A (B.mem L):=by
    intro m x hm
    obtain ⟨k1,k2⟩:=zfN.1 hm
    rcases k2 with k2 | ⟨k2,k3⟩
    · exact i3 m x (zfN.2 ⟨k1,.inl k2⟩)
    · obtain ⟨l1,l2⟩:=zfN.1 k3
      rcases l2 with l2 | ⟨l2,l3⟩
      · exact Blk.all_of x fun n hn hc=>I.wn n (hcA n hc) (Tj.u m x l2 n hn)
      · exact i3 m x (zfN.2 ⟨k1,.inr ⟨k2,l3⟩⟩)
  have Ti':Told ops oi (putF (fun t=>zde B.cut (e t)) oj.dst B.val) (B.mem L) A a:=by
    refine { Ti with r:=fun t ht=>?_,m:=?_,old:=fun m hm x hx=>?_ }
    · rw[f3 t ht]; exact Ti.r t ht
    · exact Ti.m.imp id fun h t ht=>by rw[f3 t ht]; exact h t ht
    · rw[f4 m (Ti.wn m hm)]at hx; exact Ti.old m hm x hx
  refine ⟨_,_,⟨g1,j2,g3,rfl,rfl⟩,Tj',⟨g4,i2,g5,?_,?_⟩,Ti'⟩
  · funext t
    have vA:zde B.cut A.val=A.val:=by
      rcases Ti.v with q | q
      · exact zwp fun n hn hc=>I.nw n (hcB n hc) (q n hn)
      · exact zoL (Tj.x ▸ I.vx _ q)
    have vB:zde A.cut B.val=B.val:=by
      rcases Tj.v with q | q
      · exact zwp fun n hn hc=>I.wn n (hcA n hc) (q n hn)
      · exact zoL (Ti.x ▸ I.xv _ q)
    by_cases h1:oi.dst=some t
    · have h2:oj.dst≠some t:=by
        have:=(I.dr t (by rw[Ti.d]; exact h1)).2
        rw[Tj.d]at this; exact this
      rw[zlV h2,h1,zvw,zvw]
      exact vA
    · rw[zlV (e:=fun t=>zde A.cut _) h1]
      by_cases h2:oj.dst=some t
      · rw[h2,zvw,zvw]
        exact vB.symm
      · rw[zlV h2,zlV h2,zlV h1]
        exact zDb _ _ _
  · funext n
    by_cases h1:n ∈ A.writes
    · have h2:n ∉ B.writes:=fun h=>I.wn n (Ti.w n h1) (Tj.wn n (Tj.w n h))
      rw[ziH h2]
      unfold Out.mem
      have:B.mem L n=L n:=ziH h2
      unfold Out.mem at this
      rw[this]
    · rw[ziH (L:=B.mem L) h1]
      unfold Out.mem
      have:A.mem L n=L n:=ziH h1
      unfold Out.mem at this
      rw[this]
end
end Go.Proofs.YtnolgfdjcipmmaaDoor.M
namespace Go.Proofs.YtnolgfdjcipmmaaDoor.M
open Go
inductive Run (C:Cfg) (ops:Array Oper):List (Nat × Ent)→(Nat→A)→(Nat→Option Blk)→(Nat→A)→(Nat→Option Blk)→Prop
  | nil {e L}:Run C ops [] e L e L
  | cons {i a l o out e L e1 L1 e' L'}:ops[i]?=some o→FAct C ops o e L out e1 L1→Told ops o e L out a→Run C ops l e1 L1 e' L'→Run C ops ((i,a) :: l) e L e' L'
section
variable {C:Cfg} {ops:Array Oper}
theorem Run.front {j:Nat} {b:Ent} {post:List (Nat × Ent)} {e':Nat→A} {L':Nat→Option Blk}:∀ (pre:List (Nat × Ent)) {e:Nat→A} {L:Nat→Option Blk},Run C ops (pre++(j,b) :: post) e L e' L'→(∀ p ∈ pre,Indep p.2 b) →
    ∃ o out e1 L1,ops[j]?=some o∧FAct C ops o e L out e1 L1∧Told ops o e L out b∧Run C ops (pre++post) e1 L1 e' L'
  | [],e,L,r,_=>by
    cases r with
    | cons h1 h2 h3 h4=>exact ⟨_,_,_,_,h1,h2,h3,h4⟩
  | (i,a) :: pre,e,L,r,h=>by
    cases r with
    | cons h1 h2 h3 h4 =>
      obtain ⟨oj,B,e2,L2,g1,g2,g3,g4⟩:=Run.front pre h4 (fun p hp=>h p (by simp[hp]))
      obtain ⟨e3,L3,q1,q2,q3,q4⟩:=swap h2 h3 g2 g3 (h (i,a) (by simp))
      exact ⟨oj,B,e3,L3,g1,q1,q2,.cons h1 q3 q4 g4⟩
def zAP (ops:Array Oper):Nat→Nat→Nat→Bool
  | 0,_,_=>false
  | n+1,p,q=>match ops[q]? with
    | some o=>o.after.toList.any fun ed=>Region.binds .any ed && (Nat.beq ed.on p || zAP ops n p ed.on)
    | none=>false
theorem zpH {listed:Array Bool} (down:∀ (j:Nat) (o:Oper),ops[j]?=some o→listed.getD j false=true→∀ ed ∈ o.after,Region.binds .any ed=true→listed.getD ed.on false=true) :
    ∀ (n:Nat) {p q:Nat},zAP ops n p q=true→(∀ o,ops[q]?=some o→∀ ed ∈ o.after,Region.binds .any ed=true→listed.getD ed.on false=true)→listed.getD p false=true
  | 0,p,q,h,_=>by simp[zAP]at h
  | n+1,p,q,h,hq=>by
    unfold zAP at h
    split at h
    · rename_i o ho
      rw[List.any_eq_true]at h
      obtain ⟨ed,hed,h⟩:=h
      simp only[Bool.and_eq_true,Bool.or_eq_true,nbeq]at h
      have hl:=hq o ho ed (by simpa using hed) h.1
      rcases h.2 with h2 | h2
      · rw[←h2]; exact hl
      · exact zpH down n h2 fun o' ho' ed' hed' hb=>down _ o' ho' hl ed' hed' hb
    · cases h
theorem zFs (hC:CfgOK C) {k:Wk} (hk:k.G=C.G) (hn:k.nt=C.nt∧k.np=C.np) (hlow:∀ (j:Nat) (o:Oper),ops[j]?=some o→∀ ed ∈ o.after,Region.binds .any ed=true→ed.on < j) {Q:Exit→Act→World→Prop} {e':Nat→A} {L':Nat→Option Blk}
    (hQ:∀ β S a w,RlF k β S e' L' a w→Q .normal a w) (n:Nat):∀ (l:List (Nat × Ent)) (listed:Array Bool) (β:Nat→Value) (S:Nat→Prop) (a:Act) (w:World) (e:Nat→A) (L:Nat→Option Blk),
    Run C ops l e L e' L'→l.Pairwise (fun p q=>p.1 < q.1∧(Indep p.2 q.2∨zAP ops n p.1 q.1=true))→listed.size=ops.size →
    (∀ j,j < ops.size→(listed.getD j true=false↔∃ b,(j,b) ∈ l)) →
    (∀ (j:Nat) (o:Oper),ops[j]?=some o→listed.getD j false=true→∀ ed ∈ o.after,Region.binds .any ed=true→listed.getD ed.on false=true) →
    RlF k β S e L a w→wpAny C.P .any ops Q l.length listed a w:=by
  have gd:∀ (listed:Array Bool) (j:Nat),j < listed.size→listed.getD j true=listed.getD j false:=by
    intro listed j hj; simp[hj]
  intro l
  induction hl:l.length generalizing l with
  | zero =>
    intro listed β S a w e L hr hp hs hli hd R
    have:l=[]:=List.length_eq_zero_iff.1 hl
    subst this
    cases hr
    refine ⟨?_,hQ β S a w R⟩
    rw[List.eq_nil_iff_forall_not_mem]
    intro j hj
    obtain ⟨h0,o,ho,_⟩:=mem_ready.1 hj
    have hlt:j < ops.size:=(Array.getElem?_eq_some_iff.1 ho).1
    obtain ⟨b,hb⟩:=(hli j hlt).1 h0
    cases hb
  | succ fuel ih =>
    intro listed β S a w e L hr hp hs hli hd R
    refine ⟨fun h0=>?_,fun i hi=>?_⟩
    · exfalso
      cases l with
      | nil=>simp at hl
      | cons p l =>
        obtain ⟨i,b⟩:=p
        cases hr with
        | cons h1 h2 h3 h4 =>
          rename_i o out e1 L1
          have hlt:i < ops.size:=(Array.getElem?_eq_some_iff.1 h1).1
          have hin:i ∈ Region.ready .any ops listed:=by
            rw[mem_ready]
            refine ⟨(hli i hlt).2 ⟨b,by simp⟩,o,h1,fun ed hed hb=>?_⟩
            have hlo:=hlow i o h1 ed hed hb
            cases hq:listed.getD ed.on false with
            | true=>rfl
            | false =>
              have hlt':ed.on < ops.size:=by omega
              rw[←gd listed ed.on (by omega)]at hq
              obtain ⟨b',hb'⟩:=(hli ed.on hlt').1 hq
              rcases List.mem_cons.1 hb' with h | h
              · cases h; omega
              · have:=(List.rel_of_pairwise_cons hp h).1
                simp only at this
                omega
          rw[h0]at hin
          cases hin
    · obtain ⟨hun,oi,hoi,hall⟩:=mem_ready.1 hi
      have hlt:i < ops.size:=(Array.getElem?_eq_some_iff.1 hoi).1
      obtain ⟨b,hb⟩:=(hli i hlt).1 hun
      obtain ⟨pre,post,rfl⟩:=List.append_of_mem hb
      have hind:∀ p ∈ pre,Indep p.2 b:=by
        intro p hp'
        have:=(List.pairwise_append.1 hp).2.2 p hp' (i,b) (by simp)
        rcases this.2 with h | h
        · exact h
        · exfalso
          have hlp:=zpH (listed:=listed) hd n h (fun o ho ed hed hbd=>by rw[hoi]at ho; cases ho; exact hall ed hed hbd)
          have hpl:p.1 < ops.size:=by have:=this.1; simp only at this; omega
          have:=(hli p.1 hpl).2 ⟨p.2,by simp[hp']⟩
          rw[gd listed p.1 (by omega),hlp]at this
          cases this
      obtain ⟨o,out,e1,L1,g1,g2,g3,g4⟩:=Run.front pre hr hind
      refine FStep.sound hC hk hn R (FAct.step g1 g2) fun β' S' a' w' R'=>?_
      have hkeys:∀ q ∈ pre++post,q.1≠i:=by
        intro q hq
        rcases List.mem_append.1 hq with hq | hq
        · have:=((List.pairwise_append.1 hp).2.2 q hq (i,b) (by simp)).1
          simp only at this
          omega
        · have:=(List.rel_of_pairwise_cons (List.pairwise_append.1 hp).2.1 hq).1
          simp only at this
          omega
      refine ih (pre++post) (by simp at hl ⊢; omega) (listed.setIfInBounds i true) β' S' a' w' e1 L1 g4 ?_ (by simp[hs]) ?_ ?_ R'
      · refine hp.sublist ?_
        exact List.Sublist.append (List.Sublist.refl _) (List.sublist_cons_self _ _)
      · intro j hj
        by_cases hij:i=j
        · subst hij
          constructor
          · intro h; simp[hs,hlt]at h
          · rintro ⟨b',hb'⟩; exact absurd rfl (hkeys _ hb')
        · rw[Go.getD_set_ne true hij,hli j hj]
          constructor
          · rintro ⟨b',hb'⟩
            refine ⟨b',?_⟩
            rcases List.mem_append.1 hb' with h | h
            · exact List.mem_append_left _ h
            · rcases List.mem_cons.1 h with h | h
              · cases h; exact absurd rfl hij
              · exact List.mem_append_right _ h
          · rintro ⟨b',hb'⟩
            refine ⟨b',?_⟩
            rcases List.mem_append.1 hb' with h | h
            · exact List.mem_append_left _ h
            · exact List.mem_append_right _ (List.mem_cons_of_mem _ h)
      · intro j o' ho' hj ed hed hbd
        by_cases hij:i=j
        · subst hij
          rw[hoi]at ho'; cases ho'
          exact getD_set_true (hall ed hed hbd)
        · rw[Go.getD_set_ne false hij]at hj
          exact getD_set_true (hd j o' ho' hj ed hed hbd)
inductive RunP (C:Cfg) (ops:Array Oper):List Nat→(Nat→A)→(Nat→Option Blk)→(Nat→A)→(Nat→Option Blk)→Prop
  | nil {e L}:RunP C ops [] e L e L
  | cons {i l o out e L e1 L1 e' L'}:ops[i]?=some o→FAct C ops o e L out e1 L1→RunP C ops l e1 L1 e' L'→RunP C ops (i :: l) e L e' L'
theorem zy6 (hC:CfgOK C) {k:Wk} (hk:k.G=C.G) (hn:k.nt=C.nt∧k.np=C.np) {Q:Exit→Act→World→Prop} {e':Nat→A} {L':Nat→Option Blk}
    (hQ:∀ β S a w,RlF k β S e' L' a w→Q .normal a w):∀ (l:List Nat) (β:Nat→Value) (S:Nat→Prop) (a:Act) (w:World) (e:Nat→A) (L:Nat→Option Blk),
    RunP C ops l e L e' L'→RlF k β S e L a w→wpOps C.P ops Q l a w
  | [],β,S,a,w,e,L,hr,R=>by cases hr; exact hQ β S a w R
  | i :: l,β,S,a,w,e,L,hr,R=>by
    cases hr with
    | cons h1 h2 h4 =>
      rw[wpOps_cons]
      exact FStep.sound hC hk hn R (FAct.step h1 h2) fun β' S' a' w' R'=>zy6 hC hk hn hQ l β' S' a' w' _ _ h4 R'
end
end Go.Proofs.YtnolgfdjcipmmaaDoor.M
namespace Go.Proofs.YtnolgfdjcipmmaaDoor.M
open Go
def St.e (st:St):Nat→A:=fun t=>(lk st.E t).getD .bad
def putE (E:List (Nat × A)):Option Nat→A→List (Nat × A)
  | some d,x=>(d,x) :: E.filter fun p=>!Nat.beq p.1 d
  | none,_=>E
def zxT (E:List (Nat × A)):List (Nat × Option (List PE))→List (Nat × A)
  | []=>E
  | c :: cs=>E.map fun p=>(p.1,zde (c :: cs) p.2)
def setL (L:List (Nat × Blk)):List (Nat × Blk)→List (Nat × Blk)
  | []=>L
  | (n,b) :: r=>(n,b) :: (setL L r).filter fun p=>!Nat.beq p.1 n
def zBq (L:List (Nat × Blk)):List (Nat × Option (List PE))→List (Nat × Blk)
  | []=>L
  | c :: cs=>L.filter fun p=>!zaS (c :: cs) p.1
def zHB (L:List (Nat × Blk)):List (Nat × Option (List PE))→Bool
  | []=>true
  | c :: cs=>L.all fun p=>p.2.all (zai (c :: cs))
def dstB (np nt:Nat):Option Nat→Bool
  | some d=>Nat.ble np d && Nat.blt d nt
  | none=>true
def after (C:Cfg) (d:Option Nat) (st:St) (out:Out):Option St :=
  if dstB C.np C.nt d && zHB (zBq (setL st.L out.upd) out.cut) out.cut then some { E:=putE (zxT st.E out.cut) d out.val,L:=zBq (setL st.L out.upd) out.cut } else none
theorem zbM {α:Type} (q:Nat→Bool):∀ (l:List (Nat × α)) (n:Nat),lk (l.filter fun p=>q p.1) n=if q n=true then lk l n else none
  | [],n=>by simp[lk]
  | (m,x) :: l,n=>by
    by_cases hm:q m=true
    · rw[List.filter_cons_of_pos (by exact hm),zaw,zaw,zbM q l n]
      by_cases e:m=n
      · subst e; simp[hm]
      · rw[if_neg e,if_neg e]
    · rw[List.filter_cons_of_neg (by exact hm),zbM q l n,zaw]
      by_cases e:m=n
      · subst e; simp[hm]
      · rw[if_neg e]
theorem znY {α β:Type} (f:α→β):∀ (l:List (Nat × α)) (n:Nat),lk (l.map fun p=>(p.1,f p.2)) n=(lk l n).map f
  | [],n=>rfl
  | (m,x) :: l,n=>by
    rw[List.map_cons,zaw,zaw,znY f l n]
    by_cases e:m=n
    · rw[if_pos e,if_pos e]; rfl
    · rw[if_neg e,if_neg e]
theorem zhR {m n:Nat} (h:m≠n):Nat.beq m n=false:=by
  cases hq:Nat.beq m n with
  | false=>rfl
  | true=>exact absurd (nbeq.1 hq) h
theorem zHR (E:List (Nat × A)) (d:Option Nat) (x:A):(fun t=>(lk (putE E d x) t).getD .bad)=putF (fun t=>(lk E t).getD .bad) d x:=by
  funext t
  cases d with
  | none=>rfl
  | some d =>
    simp only[putE,putF,zaw]
    by_cases h:d=t
    · subst h; simp
    · rw[if_neg h,zhR (fun q=>h q.symm),cond_false,zbM (fun m=>!Nat.beq m d),zhR (fun q=>h q.symm)]
      rfl
theorem zGk (E:List (Nat × A)) (c:List (Nat × Option (List PE))):(fun t=>(lk (zxT E c) t).getD .bad)=fun t=>zde c ((lk E t).getD .bad):=by
  funext t
  cases c with
  | nil=>rw[zxA]; rfl
  | cons c cs =>
    simp only[zxT,znY]
    cases lk E t with
    | none=>rfl
    | some x=>rfl
theorem zFr (L:List (Nat × Blk)):∀ (u:List (Nat × Blk)) (n:Nat),lk (setL L u) n=match lk u n with | some b=>some b | none=>lk L n
  | [],n=>rfl
  | (m,b) :: r,n=>by
    simp only[setL,zaw]
    by_cases h:m=n
    · rw[if_pos h,if_pos h]
    · rw[if_neg h,if_neg h,zbM (fun k=>!Nat.beq k m),zhR (fun q=>h q.symm)]
      simp only[Bool.not_false,if_true]
      exact zFr L r n
theorem zGB (L:List (Nat × Blk)) (c:List (Nat × Option (List PE))) (n:Nat):lk (zBq L c) n=if zaS c n=true then none else lk L n:=by
  cases c with
  | nil=>rfl
  | cons c cs =>
    simp only[zBq,zbM (fun k=>!zaS (c :: cs) k)]
    cases zaS (c :: cs) n<;>rfl
theorem zG1 (L:List (Nat × Blk)) (o:Out):lk (zBq (setL L o.upd) o.cut)=o.mem (lk L):=by
  funext n
  rw[zGB]
  unfold Out.mem
  rw[zFr]
  cases lk o.upd n<;>rfl
theorem zsb {C:Cfg} {ops:Array Oper} {o:Oper} {st st':St} {out:Out} (h1:act C ops st.e (lk st.L) o=some out) (h2:after C o.dst st out=some st'):FAct C ops o st.e (lk st.L) out st'.e (lk st'.L):=by
  unfold after at h2
  split at h2
  · rename_i hc
    cases h2
    simp only[Bool.and_eq_true]at hc
    refine ⟨h1,?_,?_,?_,zG1 st.L out⟩
    · intro d hd
      rw[hd]at hc
      simp only[dstB,Bool.and_eq_true]at hc
      exact ⟨Nat.le_of_ble_eq_true hc.1.1,Nat.le_of_ble_eq_true hc.1.2⟩
    · intro m b hm
      rw[←zG1]at hm
      have hm:=zbH hm
      have:=hc.2
      cases hcut:out.cut with
      | nil=>exact Blk.all_true b
      | cons c cs =>
        rw[hcut]at this hm
        simp only[zHB,List.all_eq_true]at this
        exact this _ hm
    · show (fun t=>(lk (putE (zxT st.E out.cut) o.dst out.val) t).getD .bad)=_
      rw[zHR,zGk]
      rfl
  · cases h2
def eqb (b:Bool):Bool→Bool
  | true=>b
  | false=>!b
inductive GI where
  | yes | no | on (b:Bool) | bad
def zo8 (ops:Array Oper) (e:Nat→A) (o:Oper):GI :=
  match o.guard with
  | none=>.yes
  | some (j,want)=>match (ops[j]?).bind (·.dst) with
    | none=>.no
    | some g=>match e g with
      | .pv (.sc .b b)=>.on (eqb b want)
      | .und=>.no
      | _=>.bad
def setG (ops:Array Oper) (o:Oper) (b:Bool) (st:St):St :=
  match o.guard with
  | some (j,want)=>match (ops[j]?).bind (·.dst) with
    | some g=>{ st with E:=(g,A.pv (.sc .b (eqb b want))) :: st.E.filter fun p=>!Nat.beq p.1 g }
    | none=>st
  | none=>st
theorem zEe {ops:Array Oper} {e:Nat→A} {o:Oper} (h:zo8 ops e o=.yes):zfJ ops e o=some true:=by
  unfold zo8 at h
  unfold zfJ
  split at h
  · rename_i hg; rw[hg]
  · rename_i j want hg
    split at h
    · cases h
    · split at h<;>cases h
theorem zEG {ops:Array Oper} {e:Nat→A} {o:Oper} (h:zo8 ops e o=.no):zfJ ops e o=some false:=by
  unfold zo8 at h
  unfold zfJ
  split at h
  · cases h
  · rename_i j want hg
    rw[hg]
    simp only
    split at h
    · rename_i hj; rw[hj]
    · rename_i g hj
      rw[hj]
      simp only
      split at h
      · cases h
      · rename_i hu; rw[hu]
      · cases h
theorem zHz (b want:Bool):(b == want)=eqb b want:=by cases b<;>cases want<;>rfl
theorem zHc (b want:Bool):eqb (eqb b want) want=b:=by cases b<;>cases want<;>rfl
theorem zEx {ops:Array Oper} {st:St} {o:Oper} {b:Bool} (h:zo8 ops st.e o=.on b):zfJ ops st.e o=some b∧(setG ops o b st).e=st.e∧(setG ops o b st).L=st.L:=by
  unfold zo8 at h
  unfold zfJ setG
  split at h
  · cases h
  · rename_i j want hg
    rw[hg]
    simp only
    split at h
    · cases h
    · rename_i g hj
      rw[hj]
      simp only
      split at h
      · rename_i b0 hb
        cases h
        rw[hb]
        refine ⟨by simp only[zHz],?_,by trivial⟩
        funext t
        show (lk ((g,A.pv (.sc .b (eqb (eqb b0 want) want))) :: st.E.filter fun p=>!Nat.beq p.1 g) t).getD .bad=st.e t
        rw[zHc,zaw]
        by_cases e:g=t
        · subst e; rw[if_pos rfl,hb]; rfl
        · rw[if_neg e,zbM (fun m=>!Nat.beq m g),zhR (fun q=>e q.symm)]; rfl
      · cases h
      · cases h
def zIj:A→Bool
  | .bad=>true
  | _=>false
def zp6 (ops:Array Oper) (o:Oper) (st:St) (out:Out):Ent :=
  {
    d:=o.dst,R:=o.looksAt ops,W:=out.writes,
    N:=(bif zpj o then [] else(o.looksAt ops).flatMap (fun t=>(st.e t).names)++out.val.names)++out.upd.flatMap (fun p=>p.2.names)++out.writes++out.writes.flatMap (fun n=>match lk st.L n with | some b=>b.names | none=>[])++[o.dst.getD 0]
    V:=bif zpj o then out.val :: (o.looksAt ops).map st.e else []
    X:=out.cut }
def entB (ops:Array Oper) (o:Oper) (st:St):Bool:=(o.looksAt ops).all fun t=>!zIj (st.e t)
theorem zCS {C:Cfg} {ops:Array Oper} {o:Oper} {st:St} {out:Out} (h:entB ops o st=true):Told ops o st.e (lk st.L) out (zp6 ops o st out) where
  d:=rfl
  r t ht:=by
    refine ⟨ht,?_,?_⟩
    · simp only[entB,List.all_eq_true]at h
      have:=h t ht
      intro e
      rw[e]at this
      cases this
    · cases hp:zpj o with
      | true =>
        right
        simp only[zp6,hp,cond_true]
        exact List.mem_cons_of_mem _ (List.mem_map.2 ⟨t,ht,rfl⟩)
      | false =>
        left
        intro n hn
        simp only[zp6,hp,cond_false,List.mem_append,List.mem_flatMap]
        exact .inl (.inl (.inl (.inl (.inl ⟨t,ht,hn⟩))))
  v:=by
    cases hp:zpj o with
    | true =>
      right
      simp only[zp6,hp,cond_true]
      exact List.mem_cons_self
    | false =>
      left
      intro n hn
      simp only[zp6,hp,cond_false,List.mem_append]
      exact .inl (.inl (.inl (.inl (.inr hn))))
  m:=by
    cases hp:zpj o with
    | true=>exact .inl rfl
    | false =>
      right
      intro t ht n hn
      simp only[zp6,hp,cond_false,List.mem_append,List.mem_flatMap]
      exact .inl (.inl (.inl (.inl (.inl ⟨t,ht,hn⟩))))
  x:=rfl
  u m b hm n hn:=by
    simp only[zp6,List.mem_append,List.mem_flatMap]
    exact .inl (.inl (.inl (.inr ⟨_,zbH hm,hn⟩)))
  w n hn:=hn
  wn n hn:=by simp only[zp6,List.mem_append]; exact .inl (.inl (.inr hn))
  old m hm b hb n hn:=by
    simp only[zp6,List.mem_append,List.mem_flatMap]
    exact .inl (.inr ⟨m,hm,by rw[hb]; exact hn⟩)
  dn:=by simp[zp6]
def zCr (xs ys:List Nat):Bool:=xs.all fun x=>!memN x ys
theorem zuv {xs ys:List Nat} (h:zCr xs ys=true):∀ n ∈ xs,n ∉ ys:=by
  intro n hn hq
  simp only[zCr,List.all_eq_true,Bool.not_eq_true']at h
  have:=h n hn
  rw[zbn.2 hq]at this
  cases this
def zEn (a b:Ent):Bool :=
  (match a.d with
    | some d=>!memN d b.R && (match b.d with
      | some d'=>!Nat.beq d d'
      | none=>true)
    | none=>true) &&
  (match b.d with
    | some d=>!memN d a.R
    | none=>true) && zCr a.W b.N && zCr b.W a.N && (a.V.all fun x=>x.all (zai b.X)) && b.V.all fun x=>x.all (zai a.X)
theorem zyh {a b:Ent} (h:zEn a b=true):Indep a b:=by
  simp only[zEn,Bool.and_eq_true]at h
  obtain ⟨⟨⟨⟨⟨h1,h2⟩,h3⟩,h4⟩,h5⟩,h6⟩:=h
  refine ⟨fun d hd=>?_,fun d hd=>?_,zuv h3,zuv h4,List.all_eq_true.1 h5,List.all_eq_true.1 h6⟩
  · rw[hd]at h1
    simp only[Bool.and_eq_true,Bool.not_eq_true']at h1
    constructor
    · intro hq
      have:=h1.1
      rw[zbn.2 hq]at this
      cases this
    · intro hq
      have:=h1.2
      rw[hq]at this
      simp at this
  · rw[hd]at h2
    simp only[Bool.not_eq_true']at h2
    intro hq
    rw[zbn.2 hq]at h2
    cases h2
def zuj (ops:Array Oper) (n:Nat):List (Nat × Ent)→Bool
  | []=>true
  | p :: l=>(l.all fun q=>zAP ops n p.1 q.1 || zEn p.2 q.2) && zuj ops n l
def lowB (ops:List Oper) (i:Nat):Bool :=
  match ops with
  | []=>true
  | o :: r=>(o.after.toList.all fun ed=>!Region.binds .any ed || Nat.blt ed.on i) && lowB r (i+1)
theorem zo5 {ops:Array Oper} {n:Nat}:∀ {l:List (Nat × Ent)},zuj ops n l=true→(l.map (·.1)).Pairwise (· < ·)→l.Pairwise (fun p q=>p.1 < q.1∧(Indep p.2 q.2∨zAP ops n p.1 q.1=true))
  | [],_,_=>.nil
  | p :: l,h,hs=>by
    simp only[zuj,Bool.and_eq_true,List.all_eq_true,Bool.or_eq_true]at h
    rw[List.map_cons,List.pairwise_cons]at hs
    refine .cons (fun q hq=>⟨hs.1 q.1 (List.mem_map_of_mem hq),?_⟩) (zo5 h.2 hs.2)
    rcases h.1 q hq with h | h
    · exact .inr h
    · exact .inl (zyh h)
theorem zux:∀ (l:List Oper) (i:Nat),lowB l i=true→∀ (j:Nat) (o:Oper),l[j]?=some o→∀ ed ∈ o.after,Region.binds .any ed=true→ed.on < i+j
  | [],i,_,j,o,ho,_,_,_=>by simp at ho
  | x :: l,i,h,j,o,ho,ed,hed,hb=>by
    simp only[lowB,Bool.and_eq_true,List.all_eq_true]at h
    cases j with
    | zero =>
      simp at ho
      subst ho
      have:=h.1 ed (by simpa using hed)
      simp only[hb,Bool.not_true,Bool.false_or]at this
      exact Nat.le_of_ble_eq_true this
    | succ j =>
      have:=zux l (i+1) h.2 j o (by simpa using ho) ed hed hb
      omega
end Go.Proofs.YtnolgfdjcipmmaaDoor.M
namespace Go.Proofs.YtnolgfdjcipmmaaDoor.M
open Go
def zqB (L:List (Nat × Blk)) (n:Nat):List Nat:=match lk L n with
  | some b=>b.names
  | none=>[]
def zeN (live:List Nat) (st:St):List Nat :=
  let n1:=addN [] (live.flatMap fun t=>(st.e t).names)
  let n2:=addN n1 (n1.flatMap (zqB st.L))
  addN n2 (n2.flatMap (zqB st.L))
def zfP (ns:List Nat) (st:St):List Nat→List (Nat × Blk)
  | []=>[]
  | n :: r=>match lk st.L n with
    | some b=>(renF ns n,b.ren (renF ns)) :: zfP ns st r
    | none=>zfP ns st r
def zCj (ns:List Nat) (st:St):Bool:=ns.all fun n=>match lk st.L n with
  | some b=>b.all (isIn ns)
  | none=>true
def zys (live:List Nat) (st:St):Option St :=
  let ns:=zeN live st
  if live.all (fun t=>(st.e t).all (isIn ns)) && zCj ns st then
    some { E:=live.map fun t=>(t,(st.e t).ren (renF ns)),L:=zfP ns st ns }
  else none
theorem znP {ns:List Nat} {st:St} {n:Nat}:∀ {l:List Nat},(∀ m ∈ l,m ∈ ns)→n ∈ l→lk (zfP ns st l) (renF ns n)=(lk st.L n).map (Blk.ren (renF ns))
  | m :: r,hl,hn=>by
    have hr:∀ m ∈ r,m ∈ ns:=fun x hx=>hl x (by simp[hx])
    unfold zfP
    by_cases e:m=n
    · subst e
      cases hq:lk st.L m with
      | some b=>simp only[zaw]; rfl
      | none =>
        simp only
        by_cases hm:m ∈ r
        · rw[znP hr hm,hq]
        · clear hn
          have gen:∀ {l:List Nat},(∀ x ∈ l,x ∈ ns)→m ∉ l→lk (zfP ns st l) (renF ns m)=none:=by
            intro l
            induction l with
            | nil=>intro _ _; rfl
            | cons x l ih =>
              intro h1 h2
              unfold zfP
              have ih:=ih (fun y hy=>h1 y (by simp[hy])) (fun h=>h2 (by simp[h]))
              cases lk st.L x with
              | none=>exact ih
              | some b =>
                simp only[zaw]
                rw[if_neg (fun q=>h2 (by rw[zlf (h1 x (by simp)) (hl m (by simp)) q]; simp))]
                exact ih
          rw[gen hr hm]; rfl
    · have hn':n ∈ r:=by
        rcases List.mem_cons.1 hn with h | h
        · exact absurd h.symm e
        · exact h
      cases hq:lk st.L m with
      | some b =>
        simp only[zaw]
        rw[if_neg (fun q=>e (zlf (hl m (by simp)) (hl n (by simp[hn'])) q))]
        exact znP hr hn'
      | none=>exact znP hr hn'
theorem zu6 {ns:List Nat} {st:St} {m:Nat} {b:Blk}:∀ {l:List Nat},lk (zfP ns st l) m=some b→∃ n b0,n ∈ l∧m=renF ns n∧lk st.L n=some b0∧b=b0.ren (renF ns)
  | [],h=>by cases h
  | n :: r,h=>by
    unfold zfP at h
    have tail:lk (zfP ns st r) m=some b→∃ n' b0,n' ∈ n :: r∧m=renF ns n'∧lk st.L n'=some b0∧b=b0.ren (renF ns):=by
      intro h
      obtain ⟨n',b0,q1,q2⟩:=zu6 h
      exact ⟨n',b0,by simp[q1],q2⟩
    cases hq:lk st.L n with
    | some b1 =>
      rw[hq]at h
      simp only[zaw]at h
      by_cases e:renF ns n=m
      · rw[if_pos e]at h
        cases h
        exact ⟨n,b1,by simp,e.symm,hq,rfl⟩
      · rw[if_neg e]at h
        exact tail h
    | none =>
      rw[hq]at h
      exact tail h
theorem zxa {α:Type} (g:Nat→α):∀ (live:List Nat) (t:Nat),lk (live.map fun t=>(t,g t)) t=if t ∈ live then some (g t)else none
  | [],t=>by simp[lk]
  | m :: r,t=>by
    rw[List.map_cons,zaw,zxa g r t]
    by_cases e:m=t
    · subst e; simp
    · rw[if_neg e]
      by_cases h:t ∈ r
      · rw[if_pos h,if_pos (by simp[h])]
      · rw[if_neg h,if_neg (by simp[h]; exact fun q=>e q.symm)]
theorem zum {ns:List Nat} {st:St} (c2:∀ n ∈ ns,∀ b,lk st.L n=some b→b.all (isIn ns)=true) {β:Nat→Value} {S:Nat→Prop} {h:Array Obj} {N0:Nat} {F:Nat→Prop} (M:MS β S h N0 F (lk st.L)) :
    ∃ β',MS β' S h N0 F (lk (zfP ns st ns))∧(∀ x v,x.all (isIn ns)=true→RepA β S h (lk st.L) x v→RepA β' S h (lk (zfP ns st ns)) (x.ren (renF ns)) v)∧∀ m b,lk (zfP ns st ns) m=some b→∃ n b0,n ∈ ns∧lk st.L n=some b0∧β' m=β n:=by
  let L1:Nat→Option Blk:=fun n=>if n ∈ ns then lk st.L n else none
  let L2:=lk (zfP ns st ns)
  let β2:Nat→Value:=fun m=>match ns.find? (fun n=>Nat.beq (renF ns n) m) with
    | some n=>β n
    | none=>undef
  have hβ2:∀ n ∈ ns,β2 (renF ns n)=β n:=by
    intro n hn
    show (match ns.find? (fun x=>Nat.beq (renF ns x) (renF ns n))with | some n=>β n | none=>undef)=β n
    cases hq:ns.find? (fun x=>Nat.beq (renF ns x) (renF ns n)) with
    | none =>
      have:=List.find?_eq_none.1 hq n hn
      simp at this
    | some x =>
      have h1:=List.find?_some hq
      have h2:=List.mem_of_find?_eq_some hq
      rw[nbeq]at h1
      rw[zlf h2 hn h1]
  have hL2:∀ n ∈ ns,L2 (renF ns n)=(lk st.L n).map (Blk.ren (renF ns)):=fun n hn=>znP (fun m hm=>hm) hn
  have hf:∀ n b,L1 n=some b→β2 (renF ns n)=β n∧L2 (renF ns n)=some (b.ren (renF ns)):=by
    intro n b hb
    by_cases hn:n ∈ ns
    · have hb:lk st.L n=some b:=by simpa [L1,hn] using hb
      exact ⟨hβ2 n hn,by rw[hL2 n hn,hb]; rfl⟩
    · simp[L1,hn]at hb
  have K:Keeps β β S S h h (lk st.L) L1 (isIn ns):=by
    refine ⟨fun _ h=>h,fun _ _=>rfl,fun v n π hm blk hb=>⟨rfl,blk,?_,SameAt.refl _ _ _⟩⟩
    have hn:n ∈ ns:=zbn.1 hm
    show (if n ∈ ns then lk st.L n else none)=some blk
    rw[if_pos hn]; exact hb
  have inv:∀ m b,L2 m=some b→∃ n b0,n ∈ ns∧m=renF ns n∧lk st.L n=some b0∧b=b0.ren (renF ns):=fun m b hb=>zu6 hb
  have M2:MS β2 S h N0 F L2:=by
    refine ⟨?_,?_,?_,M.bound⟩
    · intro m b hb
      obtain ⟨n,b0,h1,rfl,h3,rfl⟩:=inv m b hb
      have hok:=(M.blk n b0 h3).mono K rfl (fun _ _=>rfl) (c2 n h1 b0 h3)
      exact hok.ren (fun _ h=>h) hf (hβ2 n h1)
    · intro m b hb q hq
      obtain ⟨n,b0,h1,rfl,h3,rfl⟩:=inv m b hb
      rw[hβ2 n h1]at hq
      exact M.own n b0 h3 q hq
    · intro m m' hne h1 h2 q hq
      obtain ⟨b,hb⟩:=Option.isSome_iff_exists.1 h1
      obtain ⟨b',hb'⟩:=Option.isSome_iff_exists.1 h2
      obtain ⟨n,b0,i1,rfl,i3,rfl⟩:=inv m b hb
      obtain ⟨n',b0',j1,rfl,j3,rfl⟩:=inv m' b' hb'
      rw[hβ2 n i1]at hq
      rw[hβ2 n' j1]
      exact M.sep n n' (fun e=>hne (by rw[e])) (by rw[i3]; rfl) (by rw[j3]; rfl) q hq
  refine ⟨β2,M2,fun x v hx r=>(r.mono K hx).ren (fun _ h=>h) hf,fun m b hb=>?_⟩
  obtain ⟨n,b0,h1,rfl,h3,_⟩:=inv m b hb
  exact ⟨n,b0,h1,h3,hβ2 n h1⟩
theorem zpi {ns:List Nat} {st:St} (h:zCj ns st=true):∀ n ∈ ns,∀ b,lk st.L n=some b→b.all (isIn ns)=true:=by
  intro n hn b hb
  simp only[zCj,List.all_eq_true]at h
  have:=h n hn
  rw[hb]at this
  exact this
theorem zkv {live:List Nat} {st st':St} (h:zys live st=some st') {k:Wk} {β:Nat→Value} {S:Nat→Prop} {a:Act} {w:World} (R:RlF k β S st.e (lk st.L) a w):∃ β',RlF k β' S st'.e (lk st'.L) a w∧∀ m b,lk st'.L m=some b→∃ n b0,n ∈ zeN live st∧lk st.L n=some b0∧β' m=β n:=by
  unfold zys at h
  simp only at h
  generalize zeN live st=ns at h
  split at h
  · rename_i hc
    cases h
    simp only[Bool.and_eq_true]at hc
    obtain ⟨c1,c2⟩:=hc
    rw[List.all_eq_true]at c1
    obtain ⟨β2,M2,tr,inv⟩:=zum (zpi c2) R.rl.mem
    refine ⟨β2,⟨{ R.rl with mem:=M2,env:=fun t x hx=>by cases hx },fun t=>?_,fun t ht=>?_⟩,inv⟩
    · show RepA β2 S w.heap _ ((lk (live.map fun t=>(t,(st.e t).ren (renF ns))) t).getD .bad) (a.tmps.getD t undef)
      rw[zxa (fun t=>(st.e t).ren (renF ns))]
      by_cases ht:t ∈ live
      · rw[if_pos ht]
        exact tr _ _ (c1 t ht) (R.env t)
      · rw[if_neg ht]; exact RepA.bad _
    · show (lk (live.map fun t=>(t,(st.e t).ren (renF ns))) t).getD .bad=.bad
      rw[zxa (fun t=>(st.e t).ren (renF ns))]
      by_cases ht':t ∈ live
      · rw[if_pos ht',R.big t ht]; rfl
      · rw[if_neg ht']; rfl
  · cases h
theorem zcG {live:List Nat} {st st':St} (h:zys live st=some st') {k:Wk} {β:Nat→Value} {S:Nat→Prop} {a:Act} {w:World} (R:RlF k β S st.e (lk st.L) a w):∃ β',RlF k β' S st'.e (lk st'.L) a w:=by
  obtain ⟨β',h1,_⟩:=zkv h R
  exact ⟨β',h1⟩
end Go.Proofs.YtnolgfdjcipmmaaDoor.M
namespace Go.Proofs.YtnolgfdjcipmmaaDoor.M
open Go
inductive Ex where
  | normal | exit (id:Nat) | ret
def Ex.to:Ex→Exit
  | .normal=>.normal | .exit i=>.exit i | .ret=>.ret
end Go.Proofs.YtnolgfdjcipmmaaDoor.M
namespace Go.Proofs.YtnolgfdjcipmmaaDoor.M
open Go
mutual
def PV.flat:PV→Bool
  | .sc _ _=>true
  | .arr _ _ _=>true
  | .st fs=>PV.flats fs
  | .ar _ xs=>PV.flats xs
  | .sl _ _=>false
  | .sp _ _=>false
  | .nilp=>true
  | .nilm=>true
  | .raw _=>true
def PV.flats:List PV→Bool
  | []=>true
  | x :: xs=>x.flat && PV.flats xs
end
mutual
def A.flat:A→Bool
  | .pv x=>x.flat
  | .rp _=>false
  | .st fs=>A.flats fs
  | .tup fs=>A.flats fs
  | .fn _ fs=>A.flats fs
  | _=>true
def A.flats:List A→Bool
  | []=>true
  | x :: xs=>x.flat && A.flats xs
end
def Blk.flat:Blk→Bool
  | .box c=>c.flat
  | .row (.s _ _) _=>true
  | .row (.p _ xs) _=>PV.flats xs
  | .map kv=>PV.flats (kv.map (·.1)) && PV.flats (kv.map (·.2))
section
variable {β:Nat→Value} {S S2:Nat→Prop} {h:Array Obj} {L:Nat→Option Blk}
mutual
theorem RepPV.flat':∀ {x:PV} {vs:List Value},RepPV S h x vs→x.flat=true→RepPV S2 h x vs
  | _,_,.sc k x,_=>.sc k x
  | _,_,.arr k n v,_=>.arr k n v
  | _,_,.st r,e=>.st (RepL.flat' r (by simpa [PV.flat] using e))
  | _,_,.ar q r,e=>.ar q (RepL.flat' r (by simpa [PV.flat] using e))
  | _,_,.sl ..,e=>by simp[PV.flat]at e
  | _,_,.sp ..,e=>by simp[PV.flat]at e
  | _,_,.nilp,_=>.nilp
  | _,_,.nilm,_=>.nilm
  | _,_,.raw a b,_=>.raw a b
theorem RepL.flat':∀ {xs:List PV} {vs:List Value},RepL S h xs vs→PV.flats xs=true→RepL S2 h xs vs
  | _,_,.nil,_=>.nil
  | _,_,.cons a r,e=>by
    simp only[PV.flats,Bool.and_eq_true]at e
    exact .cons (RepPV.flat' a e.1) (RepL.flat' r e.2)
end
mutual
theorem RepC.flat':∀ {x vs},RepC β S h L x vs→x.flat=true→RepC β S2 h L x vs
  | _,_,.pv r,e=>.pv (r.flat' e)
  | _,_,.st r,e=>.st (RepCL.flat' r (by simpa [A.flat] using e))
  | _,_,.p a b c,_=>.p a b c
  | _,_,.pr a b c d e f,_=>.pr a b c d e f
  | _,_,.rp ..,e=>by simp[A.flat]at e
  | _,_,.o a b,_=>.o a b
  | _,_,.vw a b c d e f g,_=>.vw a b c d e f g
  | _,_,.tup r,e=>.tup (RepT.flat' r (by simpa [A.flat] using e))
  | _,_,.fn r,e=>.fn (RepT.flat' r (by simpa [A.flat] using e))
  | _,_,.und,_=>.und
  | _,_,.bad,_=>.bad
theorem RepCL.flat':∀ {xs vs},RepCL β S h L xs vs→A.flats xs=true→RepCL β S2 h L xs vs
  | _,_,.nil,_=>.nil
  | _,_,.cons a r,e=>by
    simp only[A.flats,Bool.and_eq_true]at e
    exact .cons (RepC.flat' a e.1) (RepCL.flat' r e.2)
theorem RepT.flat':∀ {xs vs},RepT β S h L xs vs→A.flats xs=true→RepT β S2 h L xs vs
  | _,_,.nil,_=>.nil
  | _,_,.cons a r,e=>by
    simp only[A.flats,Bool.and_eq_true]at e
    exact .cons (RepC.flat' a e.1) (RepT.flat' r e.2)
end
theorem RepA.flat' {x:A} {v:Value} (r:RepA β S h L x v) (e:x.flat=true):RepA β S2 h L x v:=by
  obtain ⟨vs,r,q⟩:=r
  exact ⟨vs,r.flat' e,q⟩
theorem RepRC.flat' {rc:RC} {vs:List Value} {ex:Bool} (r:RepRC S h rc vs) (e:(Blk.row rc ex).flat=true):RepRC S2 h rc vs:=by
  cases r with
  | s k xs=>exact .s k xs
  | p q r=>exact .p q (r.flat' (by simpa [Blk.flat] using e))
theorem RepM.flat':∀ {kv:List (PV × PV)} {es:List MapEntry},RepM S h kv es→PV.flats (kv.map (·.1))=true→PV.flats (kv.map (·.2))=true→RepM S2 h kv es
  | _,_,.nil,_,_=>.nil
  | _,_,.cons a b c d r,e1,e2=>by
    simp only[List.map_cons,PV.flats,Bool.and_eq_true]at e1 e2
    exact .cons (a.flat' e1.1) (b.flat' e2.1) c d (RepM.flat' r e1.2 e2.2)
theorem MS.flat' {N0:Nat} {F:Nat→Prop} (M:MS β S h N0 F L) (e:∀ n b,L n=some b→b.flat=true):MS β (fun _=>False) h N0 F L where
  blk n b hb:=by
    have:=M.blk n b hb
    have he:=e n b hb
    cases b with
    | box c =>
      obtain ⟨b,cs,T,h1,h2,h3⟩:=this
      exact ⟨b,cs,T,h1,h2,h3.flat' he⟩
    | row rc ex =>
      obtain ⟨a,cap,h1,h2,h3,h4⟩:=this
      refine ⟨a,cap,h1,h2,h3,?_⟩
      rcases h4 with h4 | ⟨b,o,cs,T,q1,q2,q3,X,vs,Y,q4,q5,q6⟩
      · exact .inl h4
      · exact .inr ⟨b,o,cs,T,q1,q2,q3,X,vs,Y,q4,q5,q6.flat' he⟩
    | map kv =>
      obtain ⟨r,es,clock,h1,h2,h3,h4⟩:=this
      simp only[Blk.flat,Bool.and_eq_true]at he
      exact ⟨r,es,clock,h1,h2,h3.flat' he.1 he.2,h4⟩
  own n b hb k hk:=⟨fun h=>h,(M.own n b hb k hk).2⟩
  sep:=M.sep
  bound k hk:=hk.elim
end
def resA (C:Cfg) (st:St):ResultVar→Option A
  | .tmp t=>some (st.e t)
  | .cell a t=>zf4 C.P (lk st.L) t (st.e a)
def zEg (C:Cfg) (st:St):List ResultVar→Option (List A)
  | []=>some []
  | r :: rs=>(resA C st r).bind fun x=>(zEg C st rs).map (x :: ·)
def one:List A→A
  | [x]=>x
  | xs=>.tup xs
def zF9 (L:List (Nat × Blk)) (vs:List A):List Nat :=
  let n1:=addN [] (vs.flatMap A.names)
  let n2:=addN n1 (n1.flatMap (zqB L))
  addN n2 (n2.flatMap (zqB L))
def zw1 (hs:List Nat) (st:St) (v:A):List Nat:=zF9 st.L (v :: hs.map st.e)
def zF4 (hs:List Nat) (st:St) (v:A):Bool:=(v :: hs.map st.e).all (fun x=>x.all (isIn (zw1 hs st v))) && zCj (zw1 hs st v) st
def zGd (hs:List Nat) (st:St) (v:A):Bool:=(v.ren (renF (zw1 hs st v))).flat && hs.all fun i=>((st.e i).ren (renF (zw1 hs st v))).flat
def loL (l:List (Nat × Blk)):List (Nat × Blk):=l.map fun p=>(p.1,p.2.lo)
def zFD (hs:List Nat) (st:St) (v:A):List (Nat × Blk):=loL (zfP (zw1 hs st v) st (zw1 hs st v))
def zEf (hs:List Nat) (st:St) (v:A) (f:Bool):CallOut :=
  { val:=v.ren (renF (zw1 hs st v)),blks:=zFD hs st v,flat:=f,roots:=hs.map fun i=>(i,(st.e i).ren (renF (zw1 hs st v))) }
def zFj (C:Cfg) (rs:List ResultVar) (hs:List Nat) (st:St):Option CallOut :=
  (zEg C st rs).bind fun xs=>if zF4 hs st (one xs)=true then some (zEf hs st (one xs) (!C.nf && zGd hs st (one xs) && (zFD hs st (one xs)).all fun p=>p.2.flat))else none
theorem zzH {n:Nat}:∀ {l:List (Nat × Blk)},lk (loL l) n=(lk l n).map Blk.lo
  | []=>rfl
  | (m,b) :: l=>by
    rw[loL,List.map_cons,zaw,zaw,←loL,zzH]
    split<;>rfl
theorem zAX {β:Nat→Value} {S:Nat→Prop} {h:Array Obj} {N0:Nat} {F:Nat→Prop} {l:List (Nat × Blk)} (M:MS β S h N0 F (lk l)) :
    MS β S h N0 F (lk (loL l))∧∀ x v,RepA β S h (lk l) x v→RepA β S h (lk (loL l)) x v:=by
  have K:Keeps β β S S h h (lk l) (lk (loL l)) (fun _ _ _=>true):=by
    refine ⟨fun _ h=>h,fun _ _=>rfl,fun v n π _ blk hb=>⟨rfl,blk.lo,by rw[zzH,hb]; rfl,Blk.lo_same _ _ _⟩⟩
  have inv:∀ n b,lk (loL l) n=some b→∃ b0,lk l n=some b0∧b=b0.lo:=by
    intro n b hb
    rw[zzH]at hb
    cases h0:lk l n with
    | none=>rw[h0]at hb; cases hb
    | some b0=>rw[h0]at hb; cases hb; exact ⟨b0,rfl,rfl⟩
  refine ⟨⟨fun n b hb=>?_,fun n b hb=>?_,fun n m hne h1 h2=>?_,M.bound⟩,fun x v r=>r.mono K (A.all_true x)⟩
  · obtain ⟨b0,h0,rfl⟩:=inv n b hb
    have:=(M.blk n b0 h0).mono K rfl (fun _ _=>rfl) (by cases b0 with | box c=>exact A.all_true c | row _ _=>rfl | map _=>rfl)
    cases b0 with
    | box c=>exact this
    | row rc ex =>
      obtain ⟨a,cap,q1,q2,_,q4⟩:=this
      exact ⟨a,cap,q1,q2,(fun e=>by cases e),q4⟩
    | map kv=>exact this
  · obtain ⟨b0,h0,rfl⟩:=inv n b hb
    exact M.own n b0 h0
  · refine M.sep n m hne ?_ ?_
    · rw[zzH]at h1; cases h0:lk l n<;>rw[h0]at h1<;>first | rfl | cases h1
    · rw[zzH]at h2; cases h0:lk l m<;>rw[h0]at h2<;>first | rfl | cases h2
def zvH:List A→Nat→List (Nat × A)
  | [],_=>[]
  | x :: xs,i=>(i,x) :: zvH xs (i+1)
section
variable {C:Cfg}
theorem zF5 {k:Wk} {β:Nat→Value} {S:Nat→Prop} {a:Act} {w:World} {st:St} (R:RlF k β S st.e (lk st.L) a w) {r:ResultVar} {x:A} (h:resA C st r=some x) :
    ∃ v,(match r with | .tmp t=>pure (a.tmps.getD t undef) | .cell b t=>do loadVar t (←asAddr (a.tmps.getD b undef)):Sem Value).run C.P w=.ok v w∧RepA β S w.heap (lk st.L) x v:=by
  cases r with
  | tmp t =>
    simp only[resA,Option.some.injEq]at h
    subst h
    exact ⟨_,rfl,R.env t⟩
  | cell b t =>
    simp only[resA]at h
    obtain ⟨u,h1,h2⟩:=zHt R.rl.mem h (R.env b)
    refine ⟨u,?_,h2⟩
    simp only[Sem.run_bind]
    generalize a.tmps.getD b undef=v at h1
    cases v with
    | pointer p =>
      cases p with
      | none=>simp[Instr.loadAt,Instr.sureAddr,Result.andThen]at h1
      | some ad=>simpa [Instr.loadAt,Instr.sureAddr,asAddr] using h1
    | _=>simp[Instr.loadAt,Instr.sureAddr,Result.andThen]at h1
theorem zyP {k:Wk} {β:Nat→Value} {S:Nat→Prop} {a:Act} {w:World} {st:St} (R:RlF k β S st.e (lk st.L) a w):∀ {rs:List ResultVar} {xs:List A},zEg C st rs=some xs →
    ∃ vs,(rs.mapM fun r=>(match r with | .tmp t=>pure (a.tmps.getD t undef) | .cell b t=>do loadVar t (←asAddr (a.tmps.getD b undef)):Sem Value)).run C.P w=.ok vs w∧RepAs β S w.heap (lk st.L) xs vs
  | [],xs,h=>by
    simp only[zEg,Option.some.injEq]at h
    subst h
    exact ⟨[],rfl,.nil⟩
  | r :: rs,xs,h=>by
    simp only[zEg,Option.bind_eq_some_iff,Option.map_eq_some_iff]at h
    obtain ⟨x,hx,ys,hys,rfl⟩:=h
    obtain ⟨v,h1,h2⟩:=zF5 R hx
    obtain ⟨vs,h3,h4⟩:=zyP R hys
    refine ⟨v :: vs,?_,.cons h2 h4⟩
    rw[List.mapM_cons,Sem.run_bind,h1]
    simp only[Result.andThen_ok,Sem.run_bind,h3,Sem.run_pure]
theorem RepAs.toT {β:Nat→Value} {S:Nat→Prop} {h:Array Obj} {L:Nat→Option Blk}:∀ {xs:List A} {vs:List Value},RepAs β S h L xs vs→RepT β S h L xs vs
  | _,_,.nil=>.nil
  | _,_,.cons ⟨us,r,e⟩ rest=>by subst e; exact .cons r rest.toT
theorem zHf {β:Nat→Value} {S:Nat→Prop} {h:Array Obj} {L:Nat→Option Blk} {xs:List A} {vs:List Value} (r:RepAs β S h L xs vs) :
    RepA β S h L (one xs) (if hh:vs.toArray.size=1 then vs.toArray[0]else .tuple vs.toArray):=by
  cases r with
  | nil=>exact ⟨_,.tup .nil,rfl⟩
  | cons a r =>
    cases r with
    | nil=>exact a
    | cons b r =>
      rename_i x v y u xs vs
      have hne:¬ (v :: u :: vs).toArray.size=1:=by simp
      rw[dif_neg hne]
      exact ⟨_,.tup (RepAs.cons a (.cons b r)).toT,rfl⟩
theorem zvY:∀ (args:List A) (i t:Nat),lk (zvH args i) t=if i≤t then args[t - i]? else none
  | [],i,t=>by simp[zvH,lk]
  | x :: xs,i,t=>by
    simp only[zvH,zaw,zvY xs (i+1) t]
    by_cases h:i=t
    · subst h; simp
    · rw[if_neg h]
      by_cases h2:i≤t
      · rw[if_pos h2,if_pos (by omega)]
        have:t - i=(t - (i+1))+1:=by omega
        rw[this,List.getElem?_cons_succ]
      · rw[if_neg h2,if_neg (by omega)]
end
end Go.Proofs.YtnolgfdjcipmmaaDoor.M
namespace Go.Proofs.YtnolgfdjcipmmaaDoor.M
open Go
abbrev Cn:=Option Prop
@[reducible] def Cn.h:Cn→Prop
  | none=>True
  | some p=>p
@[reducible] def Cn.and:Cn→Prop→Cn
  | none,p=>some p
  | some q,p=>some (q∧p)
theorem Cn.and_h {c:Cn} {p:Prop} (h:(c.and p).h):c.h∧p:=by cases c with | none=>exact ⟨trivial,h⟩ | some q=>exact h
def PV.scv (k:EK):PV→k.T
  | .sc k' x=>(EK.cast k' k x).getD k.zero
  | _=>k.zero
def zAt {k k':EK} {n n':Nat} (h:k'=k∧n'=n) (v:Vector k'.T n'):Vector k.T n:=h.1 ▸ h.2 ▸ v
def PV.vecv (k:EK) (n:Nat):PV→Vector k.T n
  | .arr k' n' v=>if h:k'=k∧n'=n then zAt h v else Vector.replicate n k.zero
  | _=>Vector.replicate n k.zero
def PV.fld (j:Nat):PV→PV
  | .st fs=>fs.getD j .nilp
  | _=>.nilp
def PV.els:PV→List PV
  | .ar _ xs=>xs
  | .sp _ xs=>xs
  | _=>[]
def zCE {k k':EK} (h:k'=k) (v:List k'.T):List k.T:=h ▸ v
def PV.slv (k:EK):PV→List k.T
  | .sl k' xs=>if h:k'=k then zCE h xs else []
  | _=>[]
inductive TY where
  | sc (k:EK) | arr (k:EK) (n:Nat) | st (fs:List TY) | ar (sz:Nat) | sl (k:EK) | sp (sz:Nat) | p
def tyOf (P:Program):Nat→TypeId→Option TY
  | 0,_=>none
  | d+1,t =>
    match P.underlying t with
    | some (.array n e)=>match ekT P e with
      | some k=>some (.arr k n)
      | none=>(szT P e).map .ar
    | some (.struct fs)=>(fs.toList.mapM fun f=>tyOf P d f.type).map .st
    | some (.slice e)=>match ekT P e with
      | some k=>some (.sl k)
      | none=>(szT P e).map .sp
    | some (.pointer _)=>some .p
    | some u=>(zpN u).map .sc
    | none=>none
mutual
def TY.eta:TY→PV→PV
  | .sc k,x=>.sc k (x.scv k)
  | .arr k n,x=>.arr k n (x.vecv k n)
  | .st fs,x=>.st (TY.etas fs x 0)
  | .ar sz,x=>.ar sz x.els
  | .sl k,x=>.sl k (x.slv k)
  | .sp sz,x=>.sp sz x.els
  | .p,_=>.nilp
def TY.etas:List TY→PV→Nat→List PV
  | [],_,_=>[]
  | t :: ts,x,j=>t.eta (x.fld j) :: TY.etas ts x (j+1)
end
mutual
def TY.chk:TY→PV→Bool
  | .sc k,.sc k' _=>decide (k'=k)
  | .arr k n,.arr k' n' _=>decide (k'=k) && Nat.beq n' n
  | .st fs,.st xs=>TY.chks fs xs
  | .ar sz,.ar sz' _=>Nat.beq sz' sz
  | .sl k,.sl k' _=>decide (k'=k)
  | .sp sz,.sp sz' _=>Nat.beq sz' sz
  | .p,.nilp=>true
  | _,_=>false
def TY.chks:List TY→List PV→Bool
  | [],[]=>true
  | t :: ts,x :: xs=>t.chk x && TY.chks ts xs
  | _,_=>false
end
theorem EK.cast_same (k:EK) (x:k.T):EK.cast k k x=some x:=by cases k<;>rfl
mutual
theorem TY.chk_eta:∀ {t:TY} {x:PV},t.chk x=true→t.eta x=x
  | .sc k,x,h=>by
    cases x<;>simp[TY.chk]at h
    subst h
    simp[TY.eta,PV.scv,EK.cast_same]
  | .arr k n,x,h=>by
    cases x<;>simp[TY.chk]at h
    obtain ⟨rfl,h⟩:=h
    subst h
    simp[TY.eta,PV.vecv,zAt]
  | .st fs,x,h=>by
    cases x with
    | st xs =>
      simp only[TY.chk]at h
      simp only[TY.eta]
      exact congrArg PV.st (TY.chks_etas (xs:=xs) (pre:=[]) h rfl)
    | _=>simp[TY.chk]at h
  | .ar sz,x,h=>by
    cases x<;>simp[TY.chk]at h
    subst h; rfl
  | .sl k,x,h=>by
    cases x<;>simp[TY.chk]at h
    subst h
    simp[TY.eta,PV.slv,zCE]
  | .sp sz,x,h=>by
    cases x<;>simp[TY.chk]at h
    subst h; rfl
  | .p,x,h=>by
    cases x<;>simp[TY.chk]at h
    rfl
theorem TY.chks_etas:∀ {ts:List TY} {xs pre:List PV},TY.chks ts xs=true→∀ {j:Nat},pre.length=j→TY.etas ts (.st (pre++xs)) j=xs
  | [],xs,pre,h,j,hj=>by
    cases xs with
    | nil=>rfl
    | cons _ _=>simp[TY.chks]at h
  | t :: ts,xs,pre,h,j,hj=>by
    cases xs with
    | nil=>simp[TY.chks]at h
    | cons x xs =>
      simp only[TY.chks,Bool.and_eq_true]at h
      simp only[TY.etas]
      have e:(PV.st (pre++x :: xs)).fld j=x:=by
        subst hj
        simp[PV.fld,List.getD]
      rw[e,TY.chk_eta h.1]
      have:=TY.chks_etas (pre:=pre++[x]) h.2 (j:=j+1) (by simp[hj])
      rw[List.append_assoc,List.singleton_append]at this
      rw[this]
end
def binW (op:BinOp) (x y:PV):Option (Cn × PV) :=
  match op,x,y with
  | .quo,.sc .u8 x,.sc .u8 y=>some (some (y≠0),.sc .u8 (x / y)) | .rem,.sc .u8 x,.sc .u8 y=>some (some (y≠0),.sc .u8 (x % y))
  | .quo,.sc .u16 x,.sc .u16 y=>some (some (y≠0),.sc .u16 (x / y)) | .rem,.sc .u16 x,.sc .u16 y=>some (some (y≠0),.sc .u16 (x % y))
  | .quo,.sc .u32 x,.sc .u32 y=>some (some (y≠0),.sc .u32 (x / y)) | .rem,.sc .u32 x,.sc .u32 y=>some (some (y≠0),.sc .u32 (x % y))
  | .quo,.sc .u64 x,.sc .u64 y=>some (some (y≠0),.sc .u64 (x / y)) | .rem,.sc .u64 x,.sc .u64 y=>some (some (y≠0),.sc .u64 (x % y))
  | .quo,.sc .i x,.sc .i y=>some (some (y≠(0:Int)),.sc .i (w64 (Int.tdiv x y))) | .rem,.sc .i x,.sc .i y=>some (some (y≠(0:Int)),.sc .i (Int.tmod x y))
  | .shl,x,.sc .i c=>(zd5 true x (Int.toNat c)).map fun r=>(some ((0:Int)≤c),r)
  | .shr,x,.sc .i c=>(zd5 false x (Int.toNat c)).map fun r=>(some ((0:Int)≤c),r)
  | op,x,y=>(ztn op x y).map fun r=>(none,r)
theorem zDt {op:BinOp} {x y r:PV} {p:Cn} (h:binW op x y=some (p,r)) (hp:p.h):ztn op x y=some r:=by
  unfold binW at h
  split at h<;>first
    | (simp only[Option.some.injEq,Prod.mk.injEq]at h; obtain ⟨rfl,rfl⟩:=h; simp only[ztn,zpS,zki,zjX,zkE,zEd]; exact if_neg hp)
    | (simp only[Option.map_eq_some_iff,Prod.mk.injEq]at h; obtain ⟨q,h1,rfl,rfl⟩:=h; simp only[ztn,cnt]; rw[if_pos hp]; exact h1)
    | (simp only[Option.map_eq_some_iff,Prod.mk.injEq]at h; obtain ⟨q,h1,rfl,rfl⟩:=h; exact h1)
def zig (len:Nat) (cap:Option Nat) (lo hi mx:Option Int):Option (Cn × Nat × Nat × Option Nat) :=
  match mx with
  | none=>some (some (0≤lo.getD 0∧lo.getD 0≤hi.getD (len:Int)∧hi.getD (len:Int)≤((cap.getD len:Nat):Int)),(lo.getD 0).toNat,(hi.getD (len:Int)).toNat,cap)
  | some m=>match hi with
    | some h=>some (some (0≤lo.getD 0∧lo.getD 0≤h∧h≤m∧m≤((cap.getD len:Nat):Int)),(lo.getD 0).toNat,h.toNat,some m.toNat)
    | none=>none
theorem zic {len:Nat} {cap:Option Nat} {lo hi mx:Option Int} {p:Cn} {r:Nat × Nat × Option Nat} (h:zig len cap lo hi mx=some (p,r)) (hp:p.h):zlA len cap lo hi mx=some r:=by
  unfold zig at h
  unfold zlA
  split at h
  · simp only[Option.some.injEq,Prod.mk.injEq]at h
    obtain ⟨rfl,rfl⟩:=h
    exact if_pos hp
  · split at h
    · simp only[Option.some.injEq,Prod.mk.injEq]at h
      obtain ⟨rfl,rfl⟩:=h
      exact if_pos hp
    · cases h
section
variable (P:Program)
def zkc (L:Nat→Option Blk) (t:TypeId) (x:A) (j:Int):Option (Cn × A) :=
  (zcd P t).bind fun e=>(szT P e).bind fun s =>
  match x with
  | .p n π=>(L n).bind fun b=>match b,π with
    | .row (.p sz xs) _,.i i :: π'=>match P.underlying t with
      | some (.array N _)=>bif Nat.beq s 1 then some (some ((0≤j∧j < N)∧M.arrLen (.pv (RC.get (.p sz xs) (.i i :: π')))=some (N,1)),.p n (.i i :: π' ++ [.i j.toNat]))else none
      | _=>none
    | b,π=>match P.underlying t,arrLen (b.get π) with
      | some (.array N _),some (N',sz)=>if Nat.beq N N' && Nat.beq s sz then some (some (0≤j∧j < N),.p n (π++[.i j.toNat]))else none
      | _,_=>none
  | .rp (.arr k n v)=>match P.underlying t with
    | some (.array N _)=>if Nat.beq N n && Nat.beq s 1 then some (some (0≤j∧j < N),.rp (.sc k (v.toList.getD j.toNat k.zero)))else none
    | _=>none
  | .rp (.ar sz xs)=>match P.underlying t with
    | some (.array N _)=>if Nat.beq s sz then(tyOf P 8 e).map fun ty=>(some ((xs.length=N∧0≤j∧j < N)∧ty.chk (xs.getD j.toNat .nilp)=true),.rp (ty.eta (xs.getD j.toNat .nilp)))else none
    | _=>none
  | .o n=>(L n).bind fun b=>match P.underlying t,b with
    | some (.slice _),.row rc _=>if Nat.beq s rc.sz then some (some (0≤j∧j < rc.len),.p n [.i j.toNat])else none
    | _,_=>none
  | .vw n π off len _=>(L n).bind fun b=>match P.underlying t,b.arrLen π with
    | some (.slice _),some (_,sz)=>if Nat.beq s sz then some (some (0≤j∧j < len),.p n (π++[.i (off+j.toNat)]))else none
    | _,_=>none
  | .pv (.sl k xs)=>match P.underlying t with
    | some (.slice _)=>if Nat.beq s 1 then some (some (0≤j∧j < xs.length),.rp (.sc k (xs.getD j.toNat k.zero)))else none
    | _=>none
  | .pv (.sp sz xs)=>match P.underlying t with
    | some (.slice _)=>if Nat.beq s sz then(tyOf P 8 e).map fun ty=>(some ((0≤j∧j < xs.length)∧ty.chk (xs.getD j.toNat .nilp)=true),.rp (ty.eta (xs.getD j.toNat .nilp)))else none
    | _=>none
  | _=>none
def zqA (L:Nat→Option Blk) (t:TypeId) (x:A) (lo hi mx:Option Int):Option (Cn × A) :=
  (zcd P t).bind fun e=>(szT P e).bind fun s =>
  match x with
  | .p n π=>(L n).bind fun b=>match P.underlying t,arrLen (b.get π) with
    | some (.array N _),some (N',sz)=>if Nat.beq N N' && Nat.beq s sz then
        (zig N (some N) lo hi mx).map fun(p,l,h,m)=>(p,.vw n π l (h - l) (m.map (· - l)))else none
    | _,_=>none
  | .rp (.arr k n v)=>match P.underlying t with
    | some (.array N _)=>if Nat.beq N n && Nat.beq s 1 then(zig N (some N) lo hi mx).map fun(p,l,h,_)=>(p,.pv (.sl k ((v.toList.drop l).take (h - l))))else none
    | _=>none
  | .o n=>(L n).bind fun b=>match P.underlying t,b with
    | some (.slice _),.row rc ex=>if Nat.beq s rc.sz then
        (zig rc.len (bif ex then some rc.len else none) lo hi mx).map fun(p,l,h,m)=>(p,.vw n [] l (h - l) (m.map (· - l)))else none
    | _,_=>none
  | .vw n π off len cap=>(L n).bind fun b=>match P.underlying t,b.arrLen π with
    | some (.slice _),some (_,sz)=>if Nat.beq s sz then
        (zig len cap lo hi mx).map fun(p,l,h,m)=>(p,.vw n π (off+l) (h - l) (m.map (· - l)))else none
    | _,_=>none
  | .pv (.sl k xs)=>match P.underlying t with
    | some (.slice _)=>if Nat.beq s 1 then(zig xs.length none lo hi mx).map fun(p,l,h,_)=>(p,.pv (.sl k ((xs.drop l).take (h - l))))else none
    | _=>none
  | .pv (.sp sz xs)=>match P.underlying t with
    | some (.slice _)=>if Nat.beq s sz then(zig xs.length none lo hi mx).map fun(p,l,h,_)=>(p,.pv (.sp sz ((xs.drop l).take (h - l))))else none
    | _=>none
  | _=>none
def zEz (L:Nat→Option Blk) (t:TypeId) (x:A):Option (Cn × A) :=
  match P.underlying t with
  | some (.array n e)=>(szT P e).bind fun s=>match x with
    | .pv (.sl k xs)=>if Nat.beq s 1 then some (some (n≤xs.length∧0 < n),.rp ((RC.s k xs).arr 0 n))else none
    | .vw m π off len _=>(L m).bind fun b=>match b.arrLen π with
      | some (_,sz)=>if Nat.beq s sz then some (some (n≤len∧0 < n),.pr m π off n)else none
      | none=>none
    | .o m=>(L m).bind fun b=>match b with
      | .row rc _=>if Nat.beq s rc.sz then some (some (n≤rc.len∧0 < n),.pr m [] 0 n)else none
      | _=>none
    | _=>none
  | _=>none
end
section
variable {P:Program} {L:Nat→Option Blk}
theorem znp {t:TypeId} {x r:A} {j:Int} {p:Cn} (h:zkc P L t x j=some (p,r)) (hp:p.h):zbF P L t x j=some r:=by
  unfold zkc at h
  unfold zbF
  simp only[Option.bind_eq_some_iff]at h ⊢
  obtain ⟨e,he,s,hs,h⟩:=h
  refine ⟨e,he,s,hs,?_⟩
  split at h
  · rename_i n π
    obtain ⟨b,hb,h⟩:=Option.bind_eq_some_iff.1 h
    refine Option.bind_eq_some_iff.2 ⟨b,hb,?_⟩
    split at h
    · rename_i sz xs ex i π' x0
      split at h
      · rename_i N e' hu
        cases hs1:Nat.beq s 1 with
        | false=>rw[hs1]at h; cases h
        | true =>
        rw[hs1,cond_true]at h
        have hs1:s=1:=nbeq.1 hs1
        subst hs1
        cases h
        obtain ⟨h1,h2⟩:(0≤j∧j < N)∧M.arrLen (.pv (RC.get (.p sz xs) (.i i :: π')))=some (N,1):=hp
        have h3:M.arrLen (Blk.get (.row (.p sz xs) ex) (.i i :: π'))=some (N,1):=h2
        rw[hu,h3]
        simp only[Nat.beq_refl,Bool.and_self,if_true]
        rw[if_pos h1]
      · cases h
    · (split at h<;>first | (cases h; done) | (split at h<;>first | (cases h; done) | (simp only[Option.some.injEq,Prod.mk.injEq]at h; obtain ⟨rfl,rfl⟩:=h; simp_all [Cn.h])))
  all_goals first
    | (cases h; done)
    | (simp only[Option.bind_eq_some_iff]at h ⊢; obtain ⟨b,hb,h⟩:=h; refine ⟨b,hb,?_⟩; (split at h<;>first | (cases h; done) | (split at h<;>first | (cases h; done) | (simp only[Option.some.injEq,Prod.mk.injEq]at h; obtain ⟨rfl,rfl⟩:=h; simp_all [Cn.h]))))
    | (split at h<;>first | (cases h; done) | (split at h<;>first | (cases h; done) | (simp only[Option.some.injEq,Prod.mk.injEq]at h; obtain ⟨rfl,rfl⟩:=h; simp_all [Cn.h]; done) | (simp only[Option.map_eq_some_iff,Prod.mk.injEq]at h; obtain ⟨ty,_,rfl,rfl⟩:=h; rename_i heq hc _; simp only[heq]; rw[if_pos hc,if_pos hp.1,TY.chk_eta hp.2])))
theorem zlE {t:TypeId} {x r:A} {lo hi mx:Option Int} {p:Cn} (h:zqA P L t x lo hi mx=some (p,r)) (hp:p.h):zef P L t x lo hi mx=some r:=by
  unfold zqA at h
  unfold zef
  simp only[Option.bind_eq_some_iff]at h ⊢
  obtain ⟨e,he,s,hs,h⟩:=h
  refine ⟨e,he,s,hs,?_⟩
  split at h<;>first
    | (cases h; done)
    | (simp only[Option.bind_eq_some_iff]at h ⊢; obtain ⟨b,hb,h⟩:=h; refine ⟨b,hb,?_⟩; (split at h<;>first | (cases h; done) | (split at h<;>first | (cases h; done) | (simp only[Option.map_eq_some_iff,Prod.mk.injEq]at h; obtain ⟨⟨q,l,u,m⟩,h1,rfl,rfl⟩:=h; have h2:=zic h1 hp; simp_all [Cn.h]))))
    | (split at h<;>first | (cases h; done) | (split at h<;>first | (cases h; done) | (simp only[Option.map_eq_some_iff,Prod.mk.injEq]at h; obtain ⟨⟨q,l,u,m⟩,h1,rfl,rfl⟩:=h; have h2:=zic h1 hp; simp_all [Cn.h])))
theorem zxQ {t:TypeId} {x r:A} {p:Cn} (h:zEz P L t x=some (p,r)) (hp:p.h):zqY P L t x=some r:=by
  unfold zEz at h
  unfold zqY
  split at h
  · rename_i n e hu
    rw[hu]
    obtain ⟨s,hs,h⟩:=Option.bind_eq_some_iff.1 h
    refine Option.bind_eq_some_iff.2 ⟨s,hs,?_⟩
    split at h<;>first
      | (cases h; done)
      | (obtain ⟨b,hb,h⟩:=Option.bind_eq_some_iff.1 h; refine Option.bind_eq_some_iff.2 ⟨b,hb,?_⟩; (split at h<;>first | (cases h; done) | (split at h<;>first | (cases h; done) | (simp only[Option.some.injEq,Prod.mk.injEq]at h; obtain ⟨rfl,rfl⟩:=h; simp_all [Cn.h]))))
      | (split at h<;>first | (cases h; done) | (simp only[Option.some.injEq,Prod.mk.injEq]at h; obtain ⟨rfl,rfl⟩:=h; simp_all [Cn.h]))
  · cases h
def zjB (P:Program) (L:Nat→Option Blk) (d:Nat) (t:TypeId) (l c:Int) (ex:Bool):Option (Cn × Out) :=
  match P.underlying t with
  | some (.slice e)=>(zo0 P e l.toNat).bind fun rc=>(zdZ L d (.row rc ex) (.o d)).map fun o=>(some (0≤l∧l≤c∧c*(zlx P e:Int)≤(room:Int)∧c≤2 ^ 62),o)
  | _=>none
theorem znO {d:Nat} {t:TypeId} {l c:Int} {ex:Bool} {o:Out} {p:Cn} (h:zjB P L d t l c ex=some (p,o)) (hp:p.h):zcB P L d t l c ex=some o:=by
  unfold zjB at h
  unfold zcB
  split at h
  · simp only[Option.bind_eq_some_iff,Option.map_eq_some_iff,Prod.mk.injEq]at h
    rename_i e hu
    obtain ⟨rc,h1,o',h2,rfl,rfl⟩:=h
    rw[hu]
    refine (if_pos hp).trans ?_
    exact Option.bind_eq_some_iff.2 ⟨rc,h1,h2⟩
  · cases h
end
end Go.Proofs.YtnolgfdjcipmmaaDoor.M
namespace Go.Proofs.YtnolgfdjcipmmaaDoor.M
open Go
def zq4 (P:Program) (L:Nat→Option Blk) (e:TypeId) (zeros:Bool) (y:A):Option (Cn × RC) :=
  bif zeros then y.idx.bind fun n=>(zo0 P e n.toNat).map fun rc=>(some (0≤n∧n≤2 ^ 62),rc)
  else(zdy L y).map fun rc=>(none,rc)
def zm6 (P:Program) (L:Nat→Option Blk) (d:Nat) (t t1:TypeId) (nilc:Bool) (x y:A):Option (Cn × Out) :=
  match P.underlying t with
  | some (.slice e)=>(zsB P t1).bind fun zeros=>(bif nilc then zfb P e else zdy L x).bind fun rx=>(zq4 P L e zeros y).bind fun py=>(rx.app py.2).bind fun r =>
    if szT P e == some r.sz && Nat.blt 0 r.sz && Nat.beq rx.sz r.sz && (znZ P e).isSome then
      bif nilc then(zdZ L d (.row r false) (.o d)).map fun o=>(py.1.and (r.len*zlx P e≤room∧r.len≤room),o) else
      match x,L d with
      | .o n,none=>some (py.1.and (r.len*zlx P e≤room∧r.len≤room),{ val:=.o d,upd:=[(d,.row r false)],cut:=[(n,none)] })
      | .vw _ _ _ len (some c),none=>some (py.1.and ((r.len*zlx P e≤room∧r.len≤room)∧len=c∧0 < py.2.len),{ val:=.o d,upd:=[(d,.row r false)] })
      | _,_=>none
    else none
  | _=>none
section
variable {P:Program} {L:Nat→Option Blk}
theorem zf2 {e:TypeId} {z:Bool} {y:A} {p:Cn} {rc:RC} (h:zq4 P L e z y=some (p,rc)) (hp:p.h):zgl P L e z y=some rc:=by
  unfold zq4 at h
  unfold zgl
  cases z with
  | true =>
    simp only[cond_true,Option.bind_eq_some_iff,Option.map_eq_some_iff,Prod.mk.injEq]at h ⊢
    obtain ⟨n,hn,rc',h1,rfl,rfl⟩:=h
    exact ⟨n,hn,by rw[if_pos hp]; exact h1⟩
  | false =>
    simp only[cond_false,Option.map_eq_some_iff,Prod.mk.injEq]at h ⊢
    obtain ⟨rc',h1,_,rfl⟩:=h
    exact h1
theorem zkr {d:Nat} {t t1:TypeId} {nilc:Bool} {x y:A} {p:Cn} {o:Out} (h:zm6 P L d t t1 nilc x y=some (p,o)) (hp:p.h):zdE P L d t t1 nilc x y=some o:=by
  unfold zm6 at h
  unfold zdE
  split at h
  · rename_i e hu
    rw[hu]
    simp only[Option.bind_eq_some_iff]at h ⊢
    obtain ⟨zs,h1,rx,h2,⟨pa,ry⟩,h3,r,h4,h⟩:=h
    split at h
    · rename_i hc
      cases nilc with
      | true =>
        simp only[cond_true,Option.map_eq_some_iff,Prod.mk.injEq]at h
        obtain ⟨o',h5,rfl,rfl⟩:=h
        exact ⟨zs,h1,rx,h2,ry,zf2 h3 (Cn.and_h hp).1,r,h4,by rw[if_pos hc,if_pos (Cn.and_h hp).2]; exact h5⟩
      | false =>
        simp only[cond_false]at h
        split at h
        · rename_i n hd
          simp only[Option.some.injEq,Prod.mk.injEq]at h
          obtain ⟨rfl,rfl⟩:=h
          exact ⟨zs,h1,rx,h2,ry,zf2 h3 (Cn.and_h hp).1,r,h4,by rw[if_pos hc,if_pos (Cn.and_h hp).2]; simp only[cond_false,hd]⟩
        · rename_i n π off len c hd
          simp only[Option.some.injEq,Prod.mk.injEq]at h
          obtain ⟨rfl,rfl⟩:=h
          exact ⟨zs,h1,rx,h2,ry,zf2 h3 (Cn.and_h hp).1,r,h4,by rw[if_pos hc,if_pos (Cn.and_h hp).2.1]; simp only[cond_false,hd]; exact if_pos (Cn.and_h hp).2.2⟩
        · cases h
    · cases h
  · cases h
end
end Go.Proofs.YtnolgfdjcipmmaaDoor.M
namespace Go.Proofs.YtnolgfdjcipmmaaDoor.M
open Go
def PV.thru:PV→List PE→Bool
  | .st fs,.f j :: π=>PV.thru (fs.getD j .nilp) π
  | .ar _ _,.i _ :: _=>true
  | _,_=>false
def A.thru:A→List PE→Bool
  | .pv x,π=>x.thru π
  | .st fs,.f j :: π=>A.thru (fs.getD j .bad) π
  | _,_=>false
def Blk.thru:Blk→List PE→Bool
  | .box c,π=>c.thru π
  | .row (.p _ _) _,.i _ :: _=>true
  | _,_=>false
def zAc (P:Program) (L:Nat→Option Blk) (t:TypeId) (x:A):Option (Cn × A) :=
  match x with
  | .p n π=>(L n).bind fun b=>bif b.thru π then(match b.get π with
      | .pv y=>(tyOf P 8 t).bind fun ty=>if fits P t (.pv (ty.eta y))then some (some (ty.chk y=true),.pv (ty.eta y))else none
      | _=>none)
    else if fits P t (b.get π)then some (none,b.get π)else none
  | x=>(zf4 P L t x).map fun r=>(none,r)
theorem zvk {P:Program} {L:Nat→Option Blk} {t:TypeId} {x y:A} {p:Cn} (h:zAc P L t x=some (p,y)) (hp:p.h):zf4 P L t x=some y:=by
  unfold zAc at h
  split at h
  · rename_i n π
    simp only[Option.bind_eq_some_iff]at h
    obtain ⟨b,hb,h⟩:=h
    simp only[zf4,hb,Option.bind_some]
    cases hth:b.thru π with
    | true =>
      rw[hth]at h
      simp only[cond_true]at h
      split at h
      · rename_i z hz
        simp only[Option.bind_eq_some_iff]at h
        obtain ⟨ty,_,h⟩:=h
        split at h
        · rename_i hf
          simp only[Option.some.injEq,Prod.mk.injEq]at h
          obtain ⟨rfl,rfl⟩:=h
          have hp:ty.eta z=z:=TY.chk_eta hp
          rw[hp]at hf ⊢
          rw[hz,if_pos hf]
        · cases h
      · cases h
    | false =>
      rw[hth]at h
      simp only[cond_false]at h
      split at h
      · rename_i hf
        simp only[Option.some.injEq,Prod.mk.injEq]at h
        obtain ⟨rfl,rfl⟩:=h
        exact if_pos hf
      · cases h
  · simp only[Option.map_eq_some_iff,Prod.mk.injEq]at h
    obtain ⟨r,h1,_,rfl⟩:=h
    exact h1
def zvn (P:Program) (t:TypeId) (x:A) (j:Int):Option (Cn × A) :=
  match x,P.underlying t with
  | .pv (.arr k n v),some (.array N e)=>if Nat.beq n N && szT P e == some 1 && aggT P e == false && (P.underlying e).isSome then some (some (0≤j∧j < N),.pv (.sc k (v.toList.getD j.toNat k.zero)))else none
  | .pv (.ar sz xs),some (.array N e)=>(tyOf P 8 e).bind fun ty=>if szT P e == some sz && (aggT P e == (ty.eta (xs.getD j.toNat .nilp)).isAgg && (P.underlying e).isSome) then
      some (some ((xs.length=N∧0≤j∧j < N)∧ty.chk (xs.getD j.toNat .nilp)=true),.pv (ty.eta (xs.getD j.toNat .nilp)))else none
  | _,_=>none
theorem ztf {P:Program} {t:TypeId} {x y:A} {j:Int} {p:Cn} (h:zvn P t x j=some (p,y)) (hp:p.h):zrY P t x j=some y:=by
  unfold zvn at h
  unfold zrY
  split at h
  · rename_i k n v N e hu
    rw[hu]
    split at h
    · rename_i hc
      simp only[Option.some.injEq,Prod.mk.injEq]at h
      obtain ⟨rfl,rfl⟩:=h
      simp only
      rw[if_pos hc]; exact if_pos hp
    · cases h
  · rename_i sz xs N e hu
    rw[hu]
    simp only[Option.bind_eq_some_iff]at h
    obtain ⟨ty,_,h⟩:=h
    split at h
    · rename_i hc
      simp only[Option.some.injEq,Prod.mk.injEq]at h
      obtain ⟨rfl,rfl⟩:=h
      rw[Bool.and_eq_true]at hc
      have h2:=TY.chk_eta hp.2
      have h3:=hc.2
      rw[h2]at h3
      simp only
      rw[if_pos hc.1,if_pos hp.1,if_pos h3,h2]
    · cases h
  · cases h
end Go.Proofs.YtnolgfdjcipmmaaDoor.M
namespace Go.Proofs.YtnolgfdjcipmmaaDoor.M
open Go
def tru {α:Type} (x:Option α):Option (Cn × α):=x.map fun r=>(none,r)
def vals (x:Option (Cn × A)):Option (Cn × Out):=x.map fun r=>(r.1,{ val:=r.2 })
def zFL (P:Program) (op:BinOp) (t:TypeId) (x y:A):Option (Cn × A) :=
  match op,x,y with
  | .quo,.pv a,.pv b=>(binW .quo a b).map fun q=>(q.1,.pv q.2)
  | .rem,.pv a,.pv b=>(binW .rem a b).map fun q=>(q.1,.pv q.2)
  | .shl,.pv a,.pv b=>(binW .shl a b).map fun q=>(q.1,.pv q.2)
  | .shr,.pv a,.pv b=>(binW .shr a b).map fun q=>(q.1,.pv q.2)
  | op,x,y=>tru (zD1 P op t x y)
def zyq (sz:Nat) (xs:List PV) (ex:Bool) (j:Nat) (π:List PE) (v:PV):Cn × Blk :=
  match π with
  | []=>(some ((xs.getD j .nilp).size=v.size),.row (.p sz (xs.set j v)) ex)
  | q :: π=>(some ((PV.get (xs.getD j .nilp) (q :: π)).size=v.size∧(PV.set (xs.getD j .nilp) (q :: π) v).isSome=true),.row (.p sz (xs.set j ((PV.set (xs.getD j .nilp) (q :: π) v).getD .nilp))) ex)
def zwS (P:Program) (L:Nat→Option Blk) (t:TypeId) (a y:A):Option (Cn × Out) :=
  match a with
  | .p n π=>(L n).bind fun b=>match b,π,y with
    | .row (.p sz xs) ex,.i j :: π,.pv v=>bif fits P t (.pv v)then some ((zyq sz xs ex j π v).1,{ val:=.und,upd:=[(n,(zyq sz xs ex j π v).2)],cut:=[(n,some (.i j :: π))] })else none
    | _,π,y=>tru (ze7 P L t (.p n π) y)
  | a=>tru (ze7 P L t a y)
def zrU (P:Program) (L:Nat→Option Blk) (t:TypeId) (x:A) (lo hi mx:Option Int):Option (Cn × A) :=
  match x with
  | .p n π=>(L n).bind fun b=>bif b.thru π then(match P.underlying t,b.get π with
      | some (.array N e),.pv y=>(ekT P e).bind fun k=>if szT P e == some 1 then(zig N (some N) lo hi mx).map fun r=>(some ((TY.arr k N).chk y=true∧r.1.h),.vw n π r.2.1 (r.2.2.1 - r.2.1) (r.2.2.2.map (· - r.2.1)))else none
      | _,_=>none)
    else zqA P L t (.p n π) lo hi mx
  | x=>zqA P L t x lo hi mx
def zi6 (P:Program) (L:Nat→Option Blk) (t:TypeId) (x:A) (f:Nat):Option (Cn × A) :=
  match x with
  | .p n π=>(L n).bind fun b=>bif b.thru π then(match P.underlying t,b.get π with
      | some (.struct fs),.pv y=>match fs[f]? with
        | some fd=>(tyOf P 8 t).bind fun ty=>match ty.eta y with
          | .st xs=>if Nat.blt f xs.length && Nat.beq fd.offset (PV.sizeL (xs.take f)) && (szT P fd.type).any (Nat.blt 0)then some (some (ty.chk y=true),.p n (π++[.f f]))else none
          | _=>none
        | none=>none
      | _,_=>none)
    else tru (zbj P L t (.p n π) f)
  | x=>tru (zbj P L t x f)
def zBf (P:Program) (L:Nat→Option Blk) (t:TypeId) (x y:A):Option (Cn × Out) :=
  match x with
  | .vw n [.i j] off len (some c)=>(L n).bind fun b=>match b with
    | .row (.p sz xs) ex=>(match P.underlying t with
      | some (.slice e)=>(ekT P e).bind fun k=>if szT P e == some 1 then(zdy L y).bind fun ry=>((RC.s k (PV.vecv k (off+c) (xs.getD j .nilp)).toList).over off (min ry.len len) ry).map fun r =>
          (some ((TY.arr k (off+c)).chk (xs.getD j .nilp)=true),{ val:=intA (min ry.len len),upd:=[(n,.row (.p sz (xs.set j (r.arr 0 (off+c)))) ex)],cut:=[(n,some [.i j])] })else none
      | _=>none)
    | _=>tru (zlL P L t (.vw n [.i j] off len (some c)) y)
  | x=>tru (zlL P L t x y)
def zyv (P:Program) (L:Nat→Option Blk) (d:Nat) (ρ:Operand→A) (o:Oper):Option (Cn × Out) :=
  match o.op with
  | .store t x y=>zwS P L t (ρ x) (ρ y)
  | .load t x=>vals (zAc P L t (ρ x))
  | .binOp op t x y _=>vals (zFL P op t (ρ x) (ρ y))
  | .sliceToArrayPointer t x=>vals (zEz P L t (ρ x))
  | .makeSlice t l c=>(ρ l).idx.bind fun li=>(ρ c).idx.bind fun ci=>zjB P L d t li ci (zB0 l c)
  | .slice t x lo hi mx=>(idxO ρ lo).bind fun l=>(idxO ρ hi).bind fun h=>(idxO ρ mx).bind fun m=>vals (zrU P L t (ρ x) l h m)
  | .indexAddr t x i=>(ρ i).idx.bind fun j=>vals (zkc P L t (ρ x) j)
  | .index t x i=>(ρ i).idx.bind fun j=>vals (zvn P t (ρ x) j)
  | .fieldAddr t x f=>vals (zi6 P L t (ρ x) f)
  | .call c=>match c.callee,c.args.toList,c.argTypes.toList with
    | .builtin .append,[x,y],[t,t1]=>zm6 P L d t t1 (zbx x) (ρ x) (ρ y)
    | .builtin .copy,[x,y],[t,_]=>zBf P L t (ρ x) (ρ y)
    | _,_,_=>tru (za6 P L d ρ o)
  | _=>tru (za6 P L d ρ o)
theorem zdO {α:Type} {x:Option α} {p:Cn} {r:α} (h:tru x=some (p,r)):x=some r:=by
  simp only[tru,Option.map_eq_some_iff,Prod.mk.injEq]at h
  obtain ⟨_,h1,_,rfl⟩:=h
  exact h1
theorem zd9 {x:Option (Cn × A)} {y:Option A} {p:Cn} {o:Out} (h:vals x=some (p,o)) (hp:p.h) (hs:∀ q r,x=some (q,r)→q.h→y=some r):(y.map fun r=>({ val:=r }:Out))=some o:=by
  simp only[vals,Option.map_eq_some_iff,Prod.mk.injEq]at h
  obtain ⟨⟨q,r⟩,h1,rfl,rfl⟩:=h
  rw[hs q r h1 hp]; rfl
theorem zyY {P:Program} {op:BinOp} {t:TypeId} {x y r:A} {p:Cn} (h:zFL P op t x y=some (p,r)) (hp:p.h):zD1 P op t x y=some r:=by
  unfold zFL at h
  split at h<;>first
    | (simp only[Option.map_eq_some_iff,Prod.mk.injEq]at h; obtain ⟨⟨q,s⟩,h1,rfl,rfl⟩:=h; simp only[zD1,zDt h1 hp]; rfl)
    | exact zdO h
theorem zx6 {sz:Nat} {xs:List PV} {ex:Bool} {j:Nat} {π:List PE} {v:PV} (h:(zyq sz xs ex j π v).1.h) :
    (Blk.get (.row (.p sz xs) ex) (.i j :: π)).size=(A.pv v).size∧Blk.set (.row (.p sz xs) ex) (.i j :: π) (.pv v)=some (zyq sz xs ex j π v).2:=by
  cases π with
  | nil =>
    have h:(xs.getD j .nilp).size=v.size:=h
    refine ⟨?_,?_⟩
    · show (PV.get (xs.getD j .nilp) []).size=v.size
      rw[PV.get_nil]; exact h
    · show ((PV.set (xs.getD j .nilp) [] v).map fun z=>RC.p sz (xs.set j z)).map (Blk.row · ex)=_
      have:PV.set (xs.getD j .nilp) [] v=some v:=by cases xs.getD j .nilp<;>rfl
      rw[this]; rfl
  | cons q π =>
    obtain ⟨h1,h2⟩:(PV.get (xs.getD j .nilp) (q :: π)).size=v.size∧(PV.set (xs.getD j .nilp) (q :: π) v).isSome=true:=h
    refine ⟨h1,?_⟩
    show ((PV.set (xs.getD j .nilp) (q :: π) v).map fun z=>RC.p sz (xs.set j z)).map (Blk.row · ex)=_
    obtain ⟨z,hz⟩:=Option.isSome_iff_exists.1 h2
    simp only[zyq,hz,Option.map_some,Option.getD_some]
theorem zs5 {P:Program} {L:Nat→Option Blk} {t:TypeId} {a y:A} {p:Cn} {out:Out} (h:zwS P L t a y=some (p,out)) (hp:p.h):ze7 P L t a y=some out:=by
  unfold zwS at h
  split at h
  · rename_i n π
    obtain ⟨b,hb,h1⟩:=Option.bind_eq_some_iff.1 h
    split at h1
    · rename_i sz xs ex j π v
      cases hf:fits P t (.pv v) with
      | false=>rw[hf]at h1; cases h1
      | true =>
        rw[hf]at h1
        cases h1
        obtain ⟨q1,q2⟩:=zx6 hp
        simp only[ze7,hb,Option.bind_some]
        rw[q2,hf,q1]
        simp[A.storable,A.isPlain]
    · exact zdO h1
  · exact zdO h
theorem zt1 {k:EK} {n:Nat} {x:PV} (h:(TY.arr k n).chk x=true):x=.arr k n (x.vecv k n):=(TY.chk_eta h).symm
theorem zr5 {P:Program} {L:Nat→Option Blk} {t:TypeId} {x r:A} {lo hi mx:Option Int} {p:Cn} (h:zrU P L t x lo hi mx=some (p,r)) (hp:p.h):zef P L t x lo hi mx=some r:=by
  unfold zrU at h
  split at h
  · rename_i n π
    obtain ⟨b,hb,h⟩:=Option.bind_eq_some_iff.1 h
    cases hth:b.thru π with
    | false =>
      rw[hth]at h
      exact zlE h hp
    | true =>
      rw[hth]at h
      simp only[cond_true]at h
      split at h
      · rename_i N e y hu hy
        obtain ⟨k,hk,h⟩:=Option.bind_eq_some_iff.1 h
        split at h
        · rename_i hs
          obtain ⟨⟨p1,l1,h1,m1⟩,hb1,h2⟩:=Option.map_eq_some_iff.1 h
          cases h2
          have hp:(TY.arr k N).chk y=true∧p1.h:=hp
          have hs:szT P e=some 1:=by simpa using hs
          have hbd:=zic hb1 hp.2
          have hy2:=zt1 hp.1
          unfold zef
          have he:zcd P t=some e:=by unfold zcd; rw[hu]
          rw[he,Option.bind_some,hs,Option.bind_some]
          simp only[hb,Option.bind_some,hu,hy]
          rw[hy2]
          simp only[arrLen,show Nat.beq N N=true from Nat.beq_refl N,show Nat.beq 1 1=true from rfl,Bool.and_self,if_true,hbd,Option.map_some]
        · cases h
      · cases h
  · exact zlE h hp
theorem zlU {P:Program} {L:Nat→Option Blk} {t:TypeId} {x r:A} {f:Nat} {p:Cn} (h:zi6 P L t x f=some (p,r)) (hp:p.h):zbj P L t x f=some r:=by
  unfold zi6 at h
  split at h
  · rename_i n π
    obtain ⟨b,hb,h⟩:=Option.bind_eq_some_iff.1 h
    cases hth:b.thru π with
    | false =>
      rw[hth]at h
      exact zdO h
    | true =>
      rw[hth]at h
      simp only[cond_true]at h
      split at h
      · rename_i fs y hu hy
        split at h
        · rename_i fd hfd
          obtain ⟨ty,_,h⟩:=Option.bind_eq_some_iff.1 h
          split at h
          · rename_i xs hx
            split at h
            · rename_i hc
              cases h
              have hp:ty.chk y=true:=hp
              rw[TY.chk_eta hp]at hx
              subst hx
              unfold zbj
              rw[hu]
              simp only[hfd,hb,Option.bind_some,hy,hc,if_true]
            · cases h
          · cases h
        · cases h
      · cases h
  · exact zdO h
theorem zvi {P:Program} {L:Nat→Option Blk} {t:TypeId} {x y:A} {p:Cn} {out:Out} (h:zBf P L t x y=some (p,out)) (hp:p.h):zlL P L t x y=some out:=by
  unfold zBf at h
  split at h
  · rename_i n j off len c
    obtain ⟨b,hb,h⟩:=Option.bind_eq_some_iff.1 h
    split at h
    · rename_i sz xs ex
      split at h
      · rename_i e hu
        obtain ⟨k,hk,h⟩:=Option.bind_eq_some_iff.1 h
        split at h
        · rename_i hs
          obtain ⟨ry,hry,h⟩:=Option.bind_eq_some_iff.1 h
          obtain ⟨r,hr,h2⟩:=Option.map_eq_some_iff.1 h
          cases h2
          have hp:(TY.arr k (off+c)).chk (xs.getD j .nilp)=true:=hp
          have hy2:=zt1 hp
          have hg:Blk.get (.row (.p sz xs) ex) [.i j]=.pv (.arr k (off+c) ((xs.getD j .nilp).vecv k (off+c))):=by
            show A.pv (PV.get (xs.getD j .nilp) [])=_
            rw[PV.get_nil,←hy2]
          have hset:Blk.set (.row (.p sz xs) ex) [.i j] (.pv (r.arr 0 (off+c)))=some (.row (.p sz (xs.set j (r.arr 0 (off+c)))) ex):=by
            show ((PV.set (xs.getD j .nilp) [] (r.arr 0 (off+c))).map fun z=>RC.p sz (xs.set j z)).map (Blk.row · ex)=_
            have:PV.set (xs.getD j .nilp) [] (r.arr 0 (off+c))=some (r.arr 0 (off+c)):=by cases xs.getD j .nilp<;>rfl
            rw[this]; rfl
          unfold zlL
          rw[hu]
          simp only[hs,if_true,hry,Option.bind_some,hb]
          have he:Blk.elems (.row (.p sz xs) ex) [.i j]=some (.s k ((xs.getD j .nilp).vecv k (off+c)).toList):=by
            show (Blk.get (.row (.p sz xs) ex) [.i j]).elems=_
            rw[hg]; rfl
          have ha:Blk.arrLen (.row (.p sz xs) ex) [.i j]=some (off+c,1):=by
            show M.arrLen (Blk.get (.row (.p sz xs) ex) [.i j])=_
            rw[hg]; rfl
          rw[he,Option.bind_some,hr,Option.bind_some,ha,Option.bind_some,hset]
          rfl
        · cases h
      · cases h
    · exact zdO h
  · exact zdO h
theorem zkm {P:Program} {L:Nat→Option Blk} {d:Nat} {ρ:Operand→A} {o:Oper} {p:Cn} {out:Out} (h:zyv P L d ρ o=some (p,out)) (hp:p.h):za6 P L d ρ o=some out:=by
  unfold zyv at h
  split at h
  case h_11=>exact zdO h
  case h_10 c hop =>
    split at h
    · rename_i x y t t1 h1 h2 h3
      unfold za6
      rw[hop]
      simp only[h1,h2,h3,zeU]
      exact zkr h hp
    · rename_i x y t t1 h1 h2 h3
      unfold za6
      rw[hop]
      simp only[h1,h2,h3,zeU]
      exact zvi h hp
    · exact zdO h
  all_goals (unfold za6; rename_i hop; rw[hop]; simp only)
  · exact zs5 h hp
  · exact zd9 h hp fun q r h1 h2=>zvk h1 h2
  · exact zd9 h hp fun q r h1 h2=>zyY h1 h2
  · exact zd9 h hp fun q r h1 h2=>zxQ h1 h2
  · simp only[Option.bind_eq_some_iff]at h ⊢
    obtain ⟨li,h1,ci,h2,h3⟩:=h
    exact ⟨li,h1,ci,h2,znO h3 hp⟩
  · simp only[Option.bind_eq_some_iff]at h ⊢
    obtain ⟨l,h1,u,h2,m,h3,h4⟩:=h
    exact ⟨l,h1,u,h2,m,h3,zd9 h4 hp fun q r g1 g2=>zr5 g1 g2⟩
  · simp only[Option.bind_eq_some_iff]at h ⊢
    obtain ⟨j,h1,h2⟩:=h
    exact ⟨j,h1,zd9 h2 hp fun q r g1 g2=>znp g1 g2⟩
  · simp only[Option.bind_eq_some_iff]at h ⊢
    obtain ⟨j,h1,h2⟩:=h
    exact ⟨j,h1,zd9 h2 hp fun q r g1 g2=>ztf g1 g2⟩
  · exact zd9 h hp fun q r h1 h2=>zlU h1 h2
end Go.Proofs.YtnolgfdjcipmmaaDoor.M
namespace Go.Proofs.YtnolgfdjcipmmaaDoor.M
open Go
structure CfgW where
  P:Program
  G:Nat→Option PV
  cs:Nat→List A→List (Nat × Blk)→Option (Cn × CallOut)
  sig:Nat→List Bool
  nt:Nat
  np:Nat:=0
  nf:Bool:=false
  it:Nat→List A→(Nat→Option Blk)→Option (List Nat × List (List PV)):=fun _ _ _=>none
  mv:List Nat:=[]
open Classical in
noncomputable def CfgW.cs' (C:CfgW) (f:Nat) (ys:List A) (mem:List (Nat × Blk)):Option CallOut:=(C.cs f ys mem).bind fun r=>if r.1.h then some r.2 else none
noncomputable def CfgW.cfg (C:CfgW):Cfg:={ P:=C.P,G:=C.G,cs:=C.cs',sig:=C.sig,nt:=C.nt,np:=C.np,nf:=C.nf,mv:=C.mv }
def Cn.K:Cn→Prop→Prop
  | none,k=>k
  | some p,k=>p∧k
theorem Cn.K_h {c:Cn} {k:Prop} (h:c.K k):c.h∧k:=by cases c with | none=>exact ⟨trivial,h⟩ | some p=>exact h
theorem Cn.K_mk {c:Cn} {k:Prop} (h:c.h) (hk:k):c.K k:=by cases c with | none=>exact hk | some p=>exact ⟨h,hk⟩
def zvI (L:Nat→Option Blk) (d:Nat) (ms:List Bool) (cs:List A→List (Nat × Blk)→Option (Cn × CallOut)) (xs:List A):Option (Cn × Out) :=
  if(zhO L (zhW L ms xs) && zhO L (zvd ms xs) && (zvd ms xs).all fun n=>!memN n (zhW L ms xs))=true then
    (mixA (zhW L ms xs) (zvd ms xs) L ms xs).bind fun ys=>(cs ys (zeJ (renF (zhW L ms xs)) L (zhW L ms xs))).bind fun r=>(ztX L d (zhW L ms xs) ms xs r.2).map fun x=>(r.1,x)
  else none
def zHm (P:Program) (ρ:Operand→A) (o:Oper):Option (Cn × Out):=match o.op with
  | .index t (.const (.string s)) i=>bif zGw P t then(ρ i).idx.bind fun j=>some (some (0≤j∧j < (s.data.toList.length:Int)),{ val:=.pv (.sc .u8 (s.data.toList.getD j.toNat 0)) })else none
  | _=>none
theorem zBi {P:Program} {ρ:Operand→A} {o:Oper} {p:Cn} {out:Out} (h:zHm P ρ o=some (p,out)) (hp:p.h):opSI P ρ o=some out:=by
  unfold zHm at h
  unfold opSI
  split at h
  · rename_i t s i hop
    cases ht:zGw P t with
    | false=>rw[ht]at h; cases h
    | true =>
      rw[ht,cond_true]at h
      rw[hop]
      simp only
      rw[if_pos ht]
      obtain ⟨j,hj,h⟩:=Option.bind_eq_some_iff.1 h
      cases h
      rw[hj,Option.bind_some]
      exact if_pos hp
  · cases h
def zq9 (P:Program) (L:Nat→Option Blk) (d:Nat) (ρ:Operand→A) (o:Oper):Option (Cn × Out) :=
  bif siB o then zHm P ρ o else
  bif nilN L d o then zyv P L (d+30000) ρ o else
  match fzN L ρ o.op with
  | []=>zyv P L d ρ o
  | n :: r=>(zyv P (cutL (n :: r) L) d (fun x=>fzA L (n :: r) (ρ x)) o).bind fun q =>
    if fzOK L (n :: r) q.2=true then some (q.1,{ val:=q.2.val,upd:=q.2.upd,cut:=fzC (n :: r)++q.2.cut })else none
theorem zwy {P:Program} {L:Nat→Option Blk} {d:Nat} {ρ:Operand→A} {o:Oper} {p:Cn} {out:Out} (h:zq9 P L d ρ o=some (p,out)) (hp:p.h):zjw P L d ρ o=some out:=by
  unfold zq9 at h
  unfold zjw
  cases hsi:siB o with
  | true=>rw[hsi]at h; exact zBi h hp
  | false =>
  rw[hsi,cond_false]at h
  rw[cond_false]
  cases hnl:nilN L d o with
  | true=>rw[hnl]at h; exact zkm h hp
  | false =>
  rw[hnl,cond_false]at h
  rw[cond_false]
  split at h
  · rename_i e
    rw[e]
    exact zkm h hp
  · rename_i n r e
    rw[e]
    simp only
    generalize n :: r=ns at h
    obtain ⟨⟨c,o1⟩,h1,h⟩:=Option.bind_eq_some_iff.1 h
    simp only at h
    split at h
    · rename_i hok
      cases h
      rw[zkm h1 hp,Option.bind_some,if_pos hok]
    · cases h
def znU (L:Nat→Option Blk) (d:Nat) (cs:List A→Option (Cn × CallOut)) (xs:List A):Option (Cn × Out):=(zmY L xs).bind fun ys=>(cs ys).bind fun r=>(zuV L d r.2 xs).map fun x=>(r.1,x)
def zqp (L:Nat→Option Blk) (d:Nat) (cs:List A→Option (Cn × CallOut)) (xs:List A):Option (Cn × Out) :=
  (znU (cutL (zbg L xs) L) d cs (fzL L (zbg L xs) xs)).bind fun q =>
    if fzOK L (zbg L xs) q.2=true then some (q.1,{ val:=q.2.val,upd:=q.2.upd,cut:=fzC (zbg L xs)++q.2.cut })else none
def zBW:Nat→List A→Option (Cn × Out)
  | 1,[.pv (.sc .u64 x),.pv (.sc .u64 y),.pv (.sc .u64 c)]=>some (some ((c:UInt64).toNat≤1),{ val:=.tup [.pv (.sc .u64 (x+y+c:UInt64)),.pv (.sc .u64 (zhu x y c))] })
  | 2,[.pv (.sc .u64 x),.pv (.sc .u64 y),.pv (.sc .u64 c)]=>some (some ((c:UInt64).toNat≤1),{ val:=.tup [.pv (.sc .u64 (x - y - c:UInt64)),.pv (.sc .u64 (zmp x y c))] })
  | _,_=>none
theorem zzA {k:Nat} {xs:List A} {p:Cn} {out:Out} (h:zBW k xs=some (p,out)) (hp:p.h):zxj k xs=some out:=by
  unfold zBW at h
  unfold zxj
  split at h
  · cases h; exact if_pos hp
  · cases h; exact if_pos hp
  · cases h
def zAg (C:CfgW) (L:Nat→Option Blk) (d:Nat) (ρ:Operand→A) (o:Oper):Option (Cn × Out) :=
  match o.op with
  | .call c=>match c.callee with
    | .builtin _=>zq9 C.P L d ρ o
    | _=>(zfq ρ c).bind fun g=>bif exB C.P g then zBW (extK C.P g) (zaU C.P ρ c)else bif(C.sig g).isEmpty then znU L d (fun ys=>C.cs g ys []) (zaU C.P ρ c)
      else bif anyT (C.sig g)then zvI L d (C.sig g) (C.cs g) (zaU C.P ρ c)
      else zqp L d (fun ys=>C.cs g ys []) (zaU C.P ρ c)
  | _=>zq9 C.P L d ρ o
def zEr (P:Program) (L:Nat→Option Blk) (d:Nat) (ρ:Operand→A) (o:Oper):Option (Cn × Out):=match o.op with
  | .lookup t x i ok=>(mapT P t).bind fun ke=>(zmU L (ρ x)).bind fun nk=>(znZ P ke.2).bind fun z=>(tyOf P 8 ke.2).bind fun ty=>(pvOf (ρ i)).bind fun q =>
      bif zoU P ke.1 (ρ i)then some (match ke.1 with
          | .sc k=>some (zwg k nk.2=true∧(nk.2.all fun p=>p.2.isAgg == z.isAgg)=true∧ty.chk ((mget nk.2 q).getD z)=true)
          | .w _=>some (zhm (zch q) nk.2=true∧(nk.2.all fun p=>p.2.isAgg == z.isAgg)=true∧ty.chk ((mget nk.2 q).getD z)=true),
        { val:=bif ok then .tup [.pv (ty.eta ((mget nk.2 q).getD z)),.pv (.sc .b (mget nk.2 q).isSome)]else .pv (ty.eta ((mget nk.2 q).getD z)) })else none
  | .mapUpdate t m k v=>(mapT P t).bind fun ke=>(zmU L (ρ m)).bind fun nk=>(pvOf (ρ k)).bind fun q=>(pvOf (ρ v)).bind fun y =>
      bif zoU P ke.1 (ρ k)then some (match ke.1 with
          | .sc k=>some (zwg k nk.2=true)
          | .w _=>some (zhm (zch q) nk.2=true),{ val:=.und,upd:=[(nk.1,.map (mset nk.2 q y))] })else none
  | .insert t m k v=>(mapT P t).bind fun ke=>(zmU L (ρ m)).bind fun nk=>(pvOf (ρ k)).bind fun q=>(pvOf (ρ v)).bind fun y =>
      bif zoU P ke.1 (ρ k)then some (match ke.1 with
          | .sc k=>some (zwg k nk.2=true)
          | .w _=>some (zhm (zch q) nk.2=true),{ val:=.und,upd:=[(nk.1,.map (mset nk.2 q y))] })else none
  | .call c=>match c.callee,c.argTypes.toList,c.args.toList with
    | .builtin .delete,t :: _,[m,k]=>(mapT P t).bind fun ke=>(zmU L (ρ m)).bind fun nk=>(pvOf (ρ k)).bind fun q =>
      bif zoU P ke.1 (ρ k)then some (match ke.1 with
          | .sc k=>some (zwg k nk.2=true)
          | .w _=>some (zhm (zch q) nk.2=true),{ val:=.tup [],upd:=[(nk.1,.map (mdel nk.2 q))] })else none
    | _,_,_=>(znG P L d ρ o).map fun x=>(none,x)
  | _=>(znG P L d ρ o).map fun x=>(none,x)
theorem zym {P:Program} {L:Nat→Option Blk} {d:Nat} {ρ:Operand→A} {o:Oper} {p:Cn} {out:Out} (h:zEr P L d ρ o=some (p,out)) (hp:p.h):znG P L d ρ o=some out:=by
  unfold zEr at h
  split at h
  · rename_i t x i ok hop
    obtain ⟨ke,h1,h⟩:=Option.bind_eq_some_iff.1 h
    obtain ⟨nk,h2,h⟩:=Option.bind_eq_some_iff.1 h
    obtain ⟨z,h3,h⟩:=Option.bind_eq_some_iff.1 h
    obtain ⟨ty,h4,h⟩:=Option.bind_eq_some_iff.1 h
    obtain ⟨q,h5,h⟩:=Option.bind_eq_some_iff.1 h
    cases hs:zoU P ke.1 (ρ i) with
    | false=>rw[hs]at h; cases h
    | true =>
      rw[hs,cond_true]at h
      obtain ⟨K,e⟩:=ke
      have hall:allK K q nk.2=true∧(nk.2.all fun p=>p.2.isAgg == z.isAgg)=true∧ty.chk ((mget nk.2 q).getD z)=true:=by
        cases K<;>cases h<;>exact hp
      cases h
      obtain ⟨c1,c2,c3⟩:=hall
      unfold znG
      rw[hop]
      simp only[zh3,h1,h2,h3,h5,Option.bind_some,hs,c1,c2,Bool.and_self,if_true,Option.map_some,TY.chk_eta c3]
  · rename_i t m k v hop
    obtain ⟨ke,h1,h⟩:=Option.bind_eq_some_iff.1 h
    obtain ⟨nk,h2,h⟩:=Option.bind_eq_some_iff.1 h
    obtain ⟨q,h3,h⟩:=Option.bind_eq_some_iff.1 h
    obtain ⟨y,h4,h⟩:=Option.bind_eq_some_iff.1 h
    cases hs:zoU P ke.1 (ρ k) with
    | false=>rw[hs]at h; cases h
    | true =>
      rw[hs,cond_true]at h
      obtain ⟨K,e⟩:=ke
      have c1:allK K q nk.2=true:=by
        cases K<;>cases h<;>exact hp
      cases h
      unfold znG
      rw[hop]
      simp only[zci,h1,h2,h3,h4,Option.bind_some,hs,c1,Bool.and_self,if_true]
  · rename_i t m k v hop
    obtain ⟨ke,h1,h⟩:=Option.bind_eq_some_iff.1 h
    obtain ⟨nk,h2,h⟩:=Option.bind_eq_some_iff.1 h
    obtain ⟨q,h3,h⟩:=Option.bind_eq_some_iff.1 h
    obtain ⟨y,h4,h⟩:=Option.bind_eq_some_iff.1 h
    cases hs:zoU P ke.1 (ρ k) with
    | false=>rw[hs]at h; cases h
    | true =>
      rw[hs,cond_true]at h
      obtain ⟨K,e⟩:=ke
      have c1:allK K q nk.2=true:=by
        cases K<;>cases h<;>exact hp
      cases h
      unfold znG
      rw[hop]
      simp only[zci,h1,h2,h3,h4,Option.bind_some,hs,c1,Bool.and_self,if_true]
  · rename_i c hop
    split at h
    · rename_i t r m k hc ht ha
      obtain ⟨ke,h1,h⟩:=Option.bind_eq_some_iff.1 h
      obtain ⟨nk,h2,h⟩:=Option.bind_eq_some_iff.1 h
      obtain ⟨q,h3,h⟩:=Option.bind_eq_some_iff.1 h
      cases hs:zoU P ke.1 (ρ k) with
      | false=>rw[hs]at h; cases h
      | true =>
        rw[hs,cond_true]at h
        obtain ⟨K,e⟩:=ke
        have c1:allK K q nk.2=true:=by
          cases K<;>cases h<;>exact hp
        cases h
        unfold znG
        rw[hop]
        simp only[hc,ht,ha,List.map_cons,List.map_nil,zh1,h1,h2,h3,Option.bind_some,hs,c1,Bool.and_self,if_true]
    · obtain ⟨x,hx,e⟩:=Option.map_eq_some_iff.1 h
      cases e
      exact hx
  · obtain ⟨x,hx,e⟩:=Option.map_eq_some_iff.1 h
    cases e
    exact hx
def zHr (P:Program) (L:Nat→Option Blk) (mj:Nat × Nat) (d:Nat) (ρ:Operand→A) (o:Oper):Option (Cn × Out):=match o.op with
  | .call c=>match c.callee,c.args.toList,c.argTypes.toList with
    | .builtin .append,[x,y],[t,t1]=>(L mj.1).bind fun b=>(b.set [.f mj.2] .bad).bind fun b' =>
      if zES b mj.1 mj.2 d (ρ x) (ρ y)=true then(zm6 P (upd L mj.1 (some b')) d t t1 (zbx x) (ρ x) (ρ y)).map fun q=>(q.1,zvr mj.1 mj.2 b' q.2)else none
    | _,_,_=>none
  | _=>none
theorem zAF {P:Program} {L:Nat→Option Blk} {mj:Nat × Nat} {d:Nat} {ρ:Operand→A} {o:Oper} {p:Cn} {out:Out} (h:zHr P L mj d ρ o=some (p,out)) (hp:p.h):opAp P L mj d ρ o=some out:=by
  unfold zHr at h
  unfold opAp
  split at h
  · rename_i c hop
    split at h
    · rename_i x y t t1 hc hargs htys
      obtain ⟨b,hb,h⟩:=Option.bind_eq_some_iff.1 h
      obtain ⟨b',hs,h⟩:=Option.bind_eq_some_iff.1 h
      split at h
      · rename_i hh
        obtain ⟨⟨p1,out0⟩,ha,e⟩:=Option.map_eq_some_iff.1 h
        cases e
        rw[hop]
        simp only[hc,hargs,htys,hb,Option.bind_some,hs,if_pos hh,zkr ha hp,Option.map_some]
      · cases h
    · cases h
  · cases h
def zFC (C:CfgW) (L:Nat→Option Blk) (d:Nat) (ρ:Operand→A) (o:Oper):Option (Cn × Out) :=
  bif memN d C.mv then(opMv C.P L d ρ o).map fun x=>(none,x)else match zut C.mv d with
    | some mj=>zHr C.P L mj d ρ o
    | none=>bif mapB o then zEr C.P L d ρ o else zAg C L d ρ o
theorem zlo {L:Nat→Option Blk} {d:Nat} {cs:List A→Option (Cn × CallOut)} {cs':List A→Option CallOut} {xs:List A} {p:Cn} {out:Out} (hcs:∀ ys r,cs ys=some r→r.1.h→cs' ys=some r.2) (h:znU L d cs xs=some (p,out)) (hp:p.h):zgi L d cs' xs=some out:=by
  unfold znU at h
  unfold zgi
  simp only[Option.bind_eq_some_iff,Option.map_eq_some_iff,Prod.mk.injEq]at h ⊢
  obtain ⟨ys,h2,r,h3,x,h4,rfl,rfl⟩:=h
  exact ⟨ys,h2,r.2,hcs _ _ h3 hp,h4⟩
theorem ztN {L:Nat→Option Blk} {d:Nat} {cs:List A→Option (Cn × CallOut)} {cs':List A→Option CallOut} {xs:List A} {p:Cn} {out:Out} (hcs:∀ ys r,cs ys=some r→r.1.h→cs' ys=some r.2) (h:zqp L d cs xs=some (p,out)) (hp:p.h):zjl L d cs' xs=some out:=by
  unfold zqp at h
  unfold zjl
  obtain ⟨⟨c,o1⟩,h1,h⟩:=Option.bind_eq_some_iff.1 h
  simp only at h
  split at h
  · rename_i hok
    cases h
    rw[zlo hcs h1 hp,Option.bind_some,if_pos hok]
  · cases h
theorem zv3 {C:CfgW} {L:Nat→Option Blk} {d:Nat} {ρ:Operand→A} {o:Oper} {p:Cn} {out:Out} (h:zAg C L d ρ o=some (p,out)) (hp:p.h):znA C.cfg L d ρ o=some out:=by
  have plain:zq9 C.P L d ρ o=some (p,out)→zjw C.cfg.P L d ρ o=some out:=fun h=>zwy h hp
  have cs1:∀ {g ys mem} {r:Cn × CallOut},C.cs g ys mem=some r→r.1.h→C.cfg.cs g ys mem=some r.2:=by
    intro g ys mem r hr hrp
    show C.cs' g ys mem=_
    unfold CfgW.cs'
    rw[hr]
    exact if_pos hrp
  unfold zAg at h
  unfold znA
  split at h
  · rename_i c hc
    have call:((zfq ρ c).bind fun g=>bif exB C.P g then zBW (extK C.P g) (zaU C.P ρ c)else bif(C.sig g).isEmpty then znU L d (fun ys=>C.cs g ys []) (zaU C.P ρ c)
      else bif anyT (C.sig g)then zvI L d (C.sig g) (C.cs g) (zaU C.P ρ c)
      else zqp L d (fun ys=>C.cs g ys []) (zaU C.P ρ c))=some (p,out) →
        ((zfq ρ c).bind fun g=>bif exB C.cfg.P g then zxj (extK C.cfg.P g) (zaU C.P ρ c)else bif(C.cfg.sig g).isEmpty then zgi L d (fun ys=>C.cfg.cs g ys []) (zaU C.P ρ c)
      else bif anyT (C.cfg.sig g)then zg6 L d (C.cfg.sig g) (C.cfg.cs g) (zaU C.P ρ c)
      else zjl L d (fun ys=>C.cfg.cs g ys []) (zaU C.P ρ c))=some out:=by
      intro h
      obtain ⟨g,h1,h⟩:=Option.bind_eq_some_iff.1 h
      refine Option.bind_eq_some_iff.2 ⟨g,h1,?_⟩
      show (bif exB C.P g then zxj (extK C.P g) _ else bif(C.sig g).isEmpty then _ else bif anyT (C.sig g)then zg6 L d (C.sig g) (C.cfg.cs g) _ else _)=_
      cases hex:exB C.P g with
      | true=>rw[hex]at h; exact zzA h hp
      | false =>
      rw[hex,cond_false]at h
      rw[cond_false]
      cases hsig:(C.sig g).isEmpty with
      | true =>
        rw[hsig]at h
        exact zlo (fun ys r h1 h2=>cs1 h1 h2) h hp
      | false =>
        rw[hsig]at h
        simp only[cond_false]at h ⊢
        cases ha:anyT (C.sig g) with
        | false =>
          rw[ha]at h
          exact ztN (fun ys r h1 h2=>cs1 h1 h2) h hp
        | true =>
        rw[ha]at h
        simp only[cond_true]at h ⊢
        unfold zvI at h
        unfold zg6
        split at h
        · rename_i hc
          rw[if_pos hc]
          simp only[Option.bind_eq_some_iff,Option.map_eq_some_iff,Prod.mk.injEq]at h ⊢
          obtain ⟨ys,h2,r,h3,x,h4,rfl,rfl⟩:=h
          exact ⟨ys,h2,r.2,cs1 h3 hp,h4⟩
        · cases h
    rw[hc]
    simp only
    cases hcal:c.callee with
    | builtin b=>rw[hcal]at h; exact plain h
    | value f=>rw[hcal]at h; exact call h
    | invoke r m=>rw[hcal]at h; exact call h
  · rename_i hne
    split
    · rename_i c hc; exact (hne c hc).elim
    · exact plain h
theorem zy3 {C:CfgW} {L:Nat→Option Blk} {d:Nat} {ρ:Operand→A} {o:Oper} {p:Cn} {out:Out} (h:zFC C L d ρ o=some (p,out)) (hp:p.h):zrC C.cfg L d ρ o=some out:=by
  unfold zFC at h
  unfold zrC
  show (bif memN d C.mv then opMv C.P L d ρ o else match zut C.mv d with
    | some mj=>opAp C.P L mj d ρ o
    | none=>bif mapB o then znG C.P L d ρ o else znA C.cfg L d ρ o)=some out
  cases hmv:memN d C.mv with
  | true =>
    rw[hmv,cond_true]at h
    rw[cond_true]
    obtain ⟨x,hx,e⟩:=Option.map_eq_some_iff.1 h
    cases e
    exact hx
  | false =>
    rw[hmv,cond_false]at h
    rw[cond_false]
    cases hap:zut C.mv d with
    | some mj =>
      rw[hap]at h
      exact zAF h hp
    | none =>
    rw[hap]at h
    simp only at h ⊢
    cases hmp:mapB o with
    | true=>rw[hmp,cond_true]at h; exact zym h hp
    | false=>rw[hmp,cond_false]at h; exact zv3 h hp
def zal (b:Bool) (X Y:Prop):Prop :=
  match b with
  | true=>X
  | false=>Y
def optP {α:Type} (x:Option α) (K:α→Prop):Prop :=
  match x with
  | some a=>K a
  | none=>False
theorem zar {α:Type} {x:Option α} {K:α→Prop}:optP x K↔∃ a,x=some a∧K a:=by
  cases x with
  | none=>simp[optP]
  | some a=>simp[optP]
def zCw (C:CfgW) (d:Option Nat) (st:St) (out:Out):Option St :=
  if dstB C.np C.nt d && zHB (zBq (setL st.L out.upd) out.cut) out.cut then some { E:=putE (zxT st.E out.cut) d out.val,L:=zBq (setL st.L out.upd) out.cut } else none
def actP (C:CfgW) (o:Oper) (st:St) (K:Out→St→Prop):Prop :=
  optP (zFC C (lk st.L) (o.dst.getD 0) (zhC C.G st.e) o) fun r=>r.1.K (optP (zCw C o.dst st r.2) (K r.2))
theorem zt6 {C:CfgW} {ops:Array Oper} {o:Oper} {st:St} {K:Out→St→Prop} (hg:zfJ ops st.e o=some true) (h:actP C o st K) :
    ∃ out st',FAct C.cfg ops o st.e (lk st.L) out st'.e (lk st'.L)∧K out st':=by
  obtain ⟨⟨p,out⟩,h1,h2⟩:=zar.1 h
  obtain ⟨h2,h3⟩:=Cn.K_h h2
  obtain ⟨st',h4,h5⟩:=zar.1 h3
  refine ⟨out,st',zsb (C:=C.cfg) ?_ h4,h5⟩
  simp only[act,hg,Option.bind_some,cond_true]
  exact zy3 h1 h2
theorem zuI {C:CfgW} {ops:Array Oper} {o:Oper} {st:St} {K:Out→St→Prop} (hg:zfJ ops st.e o=some false) (h:optP (zCw C o.dst st { val:=.und }) (K { val:=.und })) :
    ∃ out st',FAct C.cfg ops o st.e (lk st.L) out st'.e (lk st'.L)∧K out st':=by
  obtain ⟨st',h4,h5⟩:=zar.1 h
  refine ⟨_,st',zsb (C:=C.cfg) ?_ h4,h5⟩
  simp only[act,hg,Option.bind_some,cond_false]
def zAK (C:CfgW) (ops:Array Oper) (o:Oper) (st:St) (K:St→Out→St→Prop):Prop :=
  match zo8 ops st.e o with
  | .yes=>actP C o st (K st)
  | .no=>optP (zCw C o.dst st { val:=.und }) (K st { val:=.und })
  | .on b=>zal b (actP C o (setG ops o true st) (K (setG ops o true st))) (optP (zCw C o.dst (setG ops o false st) { val:=.und }) (K (setG ops o false st) { val:=.und }))
  | .bad=>False
theorem zr4 {C:CfgW} {ops:Array Oper} {o:Oper} {st:St} {K:St→Out→St→Prop} (h:zAK C ops o st K) :
    ∃ s out st',s.e=st.e∧s.L=st.L∧FAct C.cfg ops o st.e (lk st.L) out st'.e (lk st'.L)∧K s out st':=by
  unfold zAK at h
  split at h
  · rename_i hg
    obtain ⟨out,st',h1,h2⟩:=zt6 (ops:=ops) (zEe hg) h
    exact ⟨st,out,st',rfl,rfl,h1,h2⟩
  · rename_i hg
    obtain ⟨out,st',h1,h2⟩:=zuI (ops:=ops) (zEG hg) h
    exact ⟨st,out,st',rfl,rfl,h1,h2⟩
  · rename_i b hg
    obtain ⟨q1,q2,q3⟩:=zEx hg
    cases b with
    | true =>
      obtain ⟨out,st',h1,h2⟩:=zt6 (ops:=ops) (st:=setG ops o true st) (by rw[q2]; exact q1) h
      rw[q2,q3]at h1
      exact ⟨_,out,st',q2,q3,h1,h2⟩
    | false =>
      obtain ⟨out,st',h1,h2⟩:=zuI (ops:=ops) (st:=setG ops o false st) (by rw[q2]; exact q1) h
      rw[q2,q3]at h1
      exact ⟨_,out,st',q2,q3,h1,h2⟩
  · exact h.elim
def zqx (C:CfgW) (ops:Array Oper):List Oper→St→(St→Prop)→Prop
  | [],st,K=>K st
  | o :: r,st,K=>zAK C ops o st fun _ _ s=>zqx C ops r s K
theorem zls {C:CfgW} {ops:Array Oper} {K:St→Prop}:∀ (l:List Oper) (i:Nat) {st:St},(∀ j,j < l.length→ops[i+j]?=l[j]?)→zqx C ops l st K →
    ∃ st',RunP C.cfg ops (List.range' i l.length) st.e (lk st.L) st'.e (lk st'.L)∧K st'
  | [],i,st,_,h=>⟨st,.nil,h⟩
  | o :: r,i,st,hl,h=>by
    have hi:ops[i]?=some o:=by simpa using hl 0 (by simp)
    have hr:∀ j,j < r.length→ops[i+1+j]?=r[j]?:=fun j hj=>by
      have:=hl (j+1) (by simpa using hj)
      rw[Nat.add_right_comm,Nat.add_assoc]
      simpa using this
    obtain ⟨s,out,st1,_,_,h1,h2⟩:=zr4 h
    obtain ⟨st',h3,h4⟩:=zls r (i+1) hr h2
    rw[List.length_cons,List.range'_succ]
    exact ⟨st',.cons hi h1 h3,h4⟩
def zny (C:CfgW) (ops:Array Oper):List Oper→Nat→St→List (Nat × Ent)→(St→List (Nat × Ent)→Prop)→Prop
  | [],_,st,log,K=>K st log.reverse
  | o :: r,i,st,log,K=>zAK C ops o st fun s0 out s=>zal (entB ops o s0) (zny C ops r (i+1) s ((i,zp6 ops o s0 out) :: log) K) False
theorem zlp {C:CfgW} {ops:Array Oper} {K:St→List (Nat × Ent)→Prop}:∀ (l:List Oper) (i:Nat) (log:List (Nat × Ent)) {st:St},(∀ j,j < l.length→ops[i+j]?=l[j]?)→zny C ops l i st log K →
    ∃ st' log' t,K st' log'∧log'=log.reverse++t∧t.map (·.1)=List.range' i l.length∧Run C.cfg ops t st.e (lk st.L) st'.e (lk st'.L)
  | [],i,log,st,_,h=>⟨st,log.reverse,[],h,by simp,rfl,.nil⟩
  | o :: r,i,log,st,hl,h=>by
    have hi:ops[i]?=some o:=by simpa using hl 0 (by simp)
    have hr:∀ j,j < r.length→ops[i+1+j]?=r[j]?:=fun j hj=>by
      have:=hl (j+1) (by simpa using hj)
      rw[Nat.add_right_comm,Nat.add_assoc]
      simpa using this
    obtain ⟨s0,out,st1,he,hL,h1,h2⟩:=zr4 h
    cases hb:entB ops o s0 with
    | false=>rw[hb]at h2; exact h2.elim
    | true =>
      rw[hb]at h2
      obtain ⟨st',log',t,h3,q1,q2,q3⟩:=zlp r (i+1) _ hr h2
      have told:=zCS (C:=C.cfg) (out:=out) hb
      rw[he,hL]at told
      refine ⟨st',log',(i,zp6 ops o s0 out) :: t,h3,by rw[q1]; simp,?_,.cons hi h1 told q3⟩
      rw[List.map_cons,q2,List.length_cons,List.range'_succ]
def zml (C:CfgW) (ops:Array Oper) (draw:Bool) (st:St) (K:St→Prop):Prop :=
  zal draw (zal (lowB ops.toList 0) (zny C ops ops.toList 0 st [] fun s log=>zal (zuj ops ops.size log) (K s) False) False)
    (zqx C ops ops.toList st K)
theorem zpb {C:CfgW} (hC:CfgOK C.cfg) {k:Wk} (hk:k.G=C.G) (hn:k.nt=C.nt∧k.np=C.np) {ops:Array Oper} {draw:Bool} {st:St} {K:St→Prop} {Q:Exit→Act→World→Prop}
    (h:zml C ops draw st K) (hQ:∀ st',K st'→∀ β S a w,RlF k β S st'.e (lk st'.L) a w→Q .normal a w) {β:Nat→Value} {S:Nat→Prop} {a:Act} {w:World} (R:RlF k β S st.e (lk st.L) a w) :
    (draw=false→wpOps C.P ops Q (List.range ops.size) a w)∧(draw=true→wpAny C.P .any ops Q ops.size (Array.replicate ops.size false) a { w with drawn:=w.drawn+1 }):=by
  unfold zml at h
  cases draw with
  | false =>
    obtain ⟨st',hr,h2⟩:=zls (C:=C) (ops:=ops) ops.toList 0 (fun j hj=>by simp) h
    have:=zy6 hC hk hn (hQ st' h2) _ β S a w _ _ hr R
    refine ⟨fun _=>?_,(fun h=>by cases h)⟩
    rw[List.range_eq_range']
    have e:ops.toList.length=ops.size:=by simp
    rw[e]at this
    exact this
  | true =>
    simp only[zal]at h
    cases hlow:lowB ops.toList 0 with
    | false=>rw[hlow]at h; exact h.elim
    | true =>
      rw[hlow]at h
      obtain ⟨st',log,t,h2,q1,q2,q3⟩:=zlp (C:=C) (ops:=ops) ops.toList 0 [] (fun j hj=>by simp) h
      simp only[List.reverse_nil,List.nil_append]at q1
      subst q1
      cases hp:zuj ops ops.size log with
      | false=>rw[hp]at h2; exact h2.elim
      | true =>
        rw[hp]at h2
        have hlen:log.length=ops.size:=by
          have:=congrArg List.length q2
          simpa using this
        have hR:RlF k β S st.e (lk st.L) a { w with drawn:=w.drawn+1 }:=⟨(R.rl.drew),R.env,R.big⟩
        have hkey:∀ j,j < ops.size→∃ b,(j,b) ∈ log:=by
          intro j hj
          have:j ∈ log.map (·.1):=by
            rw[q2]
            simp
            omega
          obtain ⟨p,hp,rfl⟩:=List.mem_map.1 this
          exact ⟨p.2,hp⟩
        have:=zFs hC hk hn (ops:=ops) (fun j o ho ed hed hb=>by
          have:=zux ops.toList 0 hlow j o (by simpa using ho) ed hed hb
          omega) (hQ st' h2) ops.size log (Array.replicate ops.size false) β S a { w with drawn:=w.drawn+1 } _ _ q3
          (zo5 hp (by rw[q2]; exact List.pairwise_lt_range')) (by simp)
          (fun j hj=>⟨fun _=>hkey j hj,fun _=>by simp[hj]⟩)
          (fun j o ho hj=>by
            exfalso
            have hlt:j < ops.size:=(Array.getElem?_eq_some_iff.1 ho).1
            simp[hlt]at hj) hR
        rw[hlen]at this
        exact ⟨(fun h=>by cases h),fun _=>this⟩
theorem zwe {C:CfgW} (hC:CfgOK C.cfg) (hm:C.P.follows .mixedOrders=true) {k:Wk} (hk:k.G=C.G) (hn:k.nt=C.nt∧k.np=C.np) {id:Nat} {ops:Array Oper} {draw:Bool} {st:St} {K:St→Prop} {Q:Exit→Act→World→Prop}
    (h:zml C ops draw st K) (hQ:∀ st',K st'→∀ β S a w,RlF k β S st'.e (lk st'.L) a w→Q .normal a w) {β:Nat→Value} {S:Nat→Prop} {a:Act} {w:World} (R:RlF k β S st.e (lk st.L) a w) :
    (Code.region id ops draw).wp C.P Q a w:=by
  have:=zpb hC hk hn h hQ R
  cases draw with
  | false=>exact wp_region (this.1 rfl)
  | true=>exact wp_region_any hm (this.2 rfl)
def Det {α:Type} (f:(α→Prop)→Prop):Prop:=∀ K,f K→∃ a,K a∧∀ K',K' a→f K'
theorem zCC {C:CfgW} {o:Oper} {st:St} {K:Out→St→Prop} (h:actP C o st K):∃ out s,K out s∧∀ K':Out→St→Prop,K' out s→actP C o st K':=by
  obtain ⟨⟨p,out⟩,h1,h2⟩:=zar.1 h
  obtain ⟨h2,h3⟩:=Cn.K_h h2
  obtain ⟨st',h4,h5⟩:=zar.1 h3
  exact ⟨out,st',h5,fun K' hK=>zar.2 ⟨_,h1,Cn.K_mk h2 (zar.2 ⟨_,h4,hK⟩)⟩⟩
theorem zxH {C:CfgW} {ops:Array Oper} {o:Oper} {st:St} {K:St→Out→St→Prop} (h:zAK C ops o st K):∃ s0 out s,K s0 out s∧∀ K':St→Out→St→Prop,K' s0 out s→zAK C ops o st K':=by
  unfold zAK at h ⊢
  cases hg:zo8 ops st.e o with
  | yes =>
    rw[hg]at h
    obtain ⟨out,s,h1,h2⟩:=zCC h
    exact ⟨st,out,s,h1,fun K' hK=>h2 (K' st) hK⟩
  | no =>
    rw[hg]at h
    obtain ⟨s,h1,h2⟩:=zar.1 h
    exact ⟨st,_,s,h2,fun K' hK=>zar.2 ⟨_,h1,hK⟩⟩
  | on b =>
    rw[hg]at h
    cases b with
    | true =>
      obtain ⟨out,s,h1,h2⟩:=zCC h
      exact ⟨_,out,s,h1,fun K' hK=>h2 (K' _) hK⟩
    | false =>
      obtain ⟨s,h1,h2⟩:=zar.1 h
      exact ⟨_,_,s,h2,fun K' hK=>zar.2 ⟨_,h1,hK⟩⟩
  | bad=>rw[hg]at h; exact h.elim
theorem zpl {C:CfgW} {ops:Array Oper}:∀ (l:List Oper) (st:St),Det (zqx C ops l st)
  | [],st=>fun K h=>⟨st,h,fun _ hK=>hK⟩
  | o :: r,st=>fun K h=>by
    obtain ⟨s0,out,s,h1,h2⟩:=zxH h
    obtain ⟨a,h3,h4⟩:=zpl r s K h1
    exact ⟨a,h3,fun K' hK=>h2 _ (h4 K' hK)⟩
theorem zpp {C:CfgW} {ops:Array Oper}:∀ (l:List Oper) (i:Nat) (st:St) (log:List (Nat × Ent)) (K:St→List (Nat × Ent)→Prop),zny C ops l i st log K→∃ s lg,K s lg∧∀ K':St→List (Nat × Ent)→Prop,K' s lg→zny C ops l i st log K'
  | [],i,st,log,K,h=>⟨st,log.reverse,h,fun _ hK=>hK⟩
  | o :: r,i,st,log,K,h=>by
    obtain ⟨s0,out,s,h1,h2⟩:=zxH h
    cases hb:entB ops o s0 with
    | false=>rw[hb]at h1; exact h1.elim
    | true =>
      rw[hb]at h1
      obtain ⟨a,lg,h3,h4⟩:=zpp r (i+1) s _ K h1
      exact ⟨a,lg,h3,fun K' hK=>h2 _ (by rw[hb]; exact h4 K' hK)⟩
theorem zA2 {C:CfgW} {ops:Array Oper} {draw:Bool} {st:St}:Det (zml C ops draw st):=by
  intro K h
  unfold zml at h
  cases draw with
  | false=>exact zpl _ _ K h
  | true =>
    simp only[zal]at h
    cases hlow:lowB ops.toList 0 with
    | false=>rw[hlow]at h; exact h.elim
    | true =>
      rw[hlow]at h
      obtain ⟨s,lg,h3,h4⟩:=zpp _ _ _ _ _ h
      cases hp:zuj ops ops.size lg with
      | false=>rw[hp]at h3; exact h3.elim
      | true =>
        rw[hp]at h3
        refine ⟨s,h3,fun K' hK=>?_⟩
        unfold zml
        simp only[zal]
        rw[hlow]
        exact h4 _ (by rw[hp]; exact hK)
end Go.Proofs.YtnolgfdjcipmmaaDoor.M
namespace Go.Proofs.YtnolgfdjcipmmaaDoor.M
open Go
def zgh (live:List Nat) (st:St) (K:St→Prop):Prop:=optP (zys live st) K
def zuz (live:List Nat) (st:St):Option St :=
  match live with
  | []=>some st
  | t :: r=>zys (t :: r) st
theorem zgC {live:List Nat} {st s:St} (h:zuz live st=some s):s=st∨zys live st=some s:=by
  cases live with
  | nil=>exact .inl (Option.some.inj h).symm
  | cons t r=>exact .inr h
def zri (t:Nat) (x:UInt8) (st:St) (K:St→Prop):List Nat→Prop
  | []=>False
  | v :: r=>zal (decide (x=UInt8.ofNat v)) (K { E:=putE st.E (some t) (.pv (.sc .u8 (UInt8.ofNat v))),L:=st.L }) (zri t x st K r)
def zzo (sp:List Nat) (st:St) (K:St→Prop):Prop :=
  match sp with
  | []=>K st
  | t :: vs=>match st.e t with
    | .pv (.sc .u8 x)=>zri t x st K vs
    | _=>False
theorem zFI {E:List (Nat × A)} {t:Nat} {x:A} (h:(lk E t).getD .bad=x) (hx:x≠.bad):∀ u,(lk (putE E (some t) x) u).getD .bad=(lk E u).getD .bad:=by
  intro u
  rw[putE,zaw]
  by_cases e:t=u
  · subst e; rw[if_pos rfl,h]; rfl
  · rw[if_neg e,zbM (fun m=>!Nat.beq m t)]
    have:Nat.beq u t=false:=by
      cases hq:Nat.beq u t with
      | false=>rfl
      | true=>exact absurd (nbeq.1 hq).symm e
    rw[this]; rfl
theorem zsp {t:Nat} {x:UInt8} {st:St} (hx:st.e t=.pv (.sc .u8 x)) {K:St→Prop}:∀ {vs:List Nat},zri t x st K vs →
    ∃ st',K st'∧(st'.e=st.e∧st'.L=st.L)∧∀ K':St→Prop,K' st'→zri t x st K' vs
  | [],h=>h.elim
  | v :: r,h=>by
    unfold zri at h
    by_cases e:x=UInt8.ofNat v
    · rw[decide_eq_true e]at h
      subst e
      refine ⟨_,h,⟨funext (zFI hx (fun q=>by cases q)),rfl⟩,fun K' hK=>?_⟩
      unfold zri
      rw[decide_eq_true rfl]
      exact hK
    · rw[decide_eq_false e]at h
      obtain ⟨s,h1,h2,h3⟩:=zsp hx h
      refine ⟨s,h1,h2,fun K' hK=>?_⟩
      unfold zri
      rw[decide_eq_false e]
      exact h3 K' hK
theorem zmN {sp:List Nat} {st:St} {K:St→Prop} (h:zzo sp st K):∃ st',K st'∧(st'.e=st.e∧st'.L=st.L)∧∀ K':St→Prop,K' st'→zzo sp st K':=by
  unfold zzo at h
  split at h
  · exact ⟨st,h,⟨rfl,rfl⟩,fun K' hK=>hK⟩
  · rename_i t vs
    split at h
    · rename_i x hx
      obtain ⟨s,h1,h2,h3⟩:=zsp hx h
      refine ⟨s,h1,h2,fun K' hK=>?_⟩
      unfold zzo
      simp only[hx]
      exact h3 K' hK
    · exact h.elim
def Ex.go (K:Ex→St→Prop) (N:St→Prop) (e:Ex) (s:St):Prop :=
  match e with
  | .normal=>N s
  | .exit i=>K (.exit i) s
  | .ret=>K .ret s
def Ex.blk (id:Nat) (K:Ex→St→Prop) (e:Ex) (s:St):Prop :=
  match e with
  | .exit j=>bif Nat.beq j id then K .normal s else K (.exit j) s
  | .normal=>K .normal s
  | .ret=>K .ret s
def zzs (f:St→(Ex→St→Prop)→Prop):Nat→St→(Ex→St→Prop)→Prop
  | 0,_,_=>False
  | n+1,st,K=>f st (Ex.go K fun s=>zzs f n s K)
structure Loop (tag:Nat) (f:St→(Ex→St→Prop)→Prop) (st:St) (K:Ex→St→Prop):Prop where
  ex:∃ n,zzs f n st K
def zHp (st:St) (t:Nat):A :=
  bif Nat.ble 4000 t then(match st.e (t - 4000) with
    | .p n π=>.vw n π 0 0 none
    | _=>.bad) else
  bif Nat.ble 2000 t then(match st.e (t - 2000) with
    | .p n π=>match lk st.L n with
      | some b=>b.get π
      | none=>.bad
    | _=>.bad)else st.e t
def zG6 (ts:List Nat) (st:St):Option St :=
  match zbg (lk st.L) (ts.map (zHp st)) with
  | []=>some st
  | n :: r=>some { E:=st.E.map fun p=>(p.1,fzA (lk st.L) (n :: r) p.2),L:=(st.L.filter fun p=>!memN p.1 (n :: r)).map fun p=>(p.1,fzB (lk st.L) (n :: r) p.2) }
def fzSt (ts:List Nat) (st:St):Option St :=
  match ts with
  | []=>some st
  | t :: r=>(zG6 (t :: r) st).map fun s=>{ E:=s.E,L:=loL s.L }
theorem zvs {m:Nat}:∀ {l ns:List Nat},m ∈ addN ns l→m ∈ ns∨m ∈ l
  | [],ns,h=>.inl h
  | n :: r,ns,h=>by
    unfold addN at h
    cases hq:memN n ns with
    | true =>
      rw[hq]at h
      exact (zvs h).imp id (fun h=>by simp[h])
    | false =>
      rw[hq]at h
      rcases zvs h with h | h
      · rcases List.mem_append.1 h with h | h
        · exact .inl h
        · exact .inr (by simp at h; simp[h])
      · exact .inr (by simp[h])
mutual
theorem zy0 {L:Nat→Option Blk} {m:Nat}:∀ {x:A},m ∈ zcm L x→∃ b,L m=some b
  | .o n,h=>by
    simp only[zcm]at h
    split at h
    · rename_i rc ex hL
      simp at h
      subst h
      exact ⟨_,hL⟩
    · cases h
  | .vw n π q l c,h=>by
    simp only[zcm]at h
    split at h
    · rename_i r hr
      obtain ⟨b,hb,_⟩:=Option.bind_eq_some_iff.1 hr
      simp at h
      subst h
      exact ⟨b,hb⟩
    · cases h
  | .st fs,h=>by
    simp only[zcm]at h
    exact ziL h
  | .pv _,h=>by simp[zcm]at h
  | .rp _,h=>by simp[zcm]at h
  | .p ..,h=>by simp[zcm]at h
  | .pr ..,h=>by simp[zcm]at h
  | .tup _,h=>by simp[zcm]at h
  | .fn ..,h=>by simp[zcm]at h
  | .und,h=>by simp[zcm]at h
  | .bad,h=>by simp[zcm]at h
theorem ziL {L:Nat→Option Blk} {m:Nat}:∀ {xs:List A},m ∈ zbg L xs→∃ b,L m=some b
  | [],h=>by cases h
  | x :: xs,h=>by
    simp only[zbg]at h
    rcases zvs h with h | h
    · exact zy0 h
    · exact ziL h
end
theorem zAb {ts:List Nat} {st st':St} (h:zG6 ts st=some st') {k:Wk} {β:Nat→Value} {S:Nat→Prop} {a:Act} {w:World} (R:RlF k β S st.e (lk st.L) a w) :
    ∃ S',RlF k β S' st'.e (lk st'.L) a w:=by
  unfold zG6 at h
  have hr0:∀ m,m ∈ zbg (lk st.L) (ts.map (zHp st))→∃ b,lk st.L m=some b:=fun m hm=>ziL hm
  generalize zbg (lk st.L) (ts.map (zHp st))=ns at h hr0
  split at h
  · cases h
    exact ⟨S,R⟩
  · rename_i n r
    cases h
    generalize n :: r=ns at hr0
    have e1:lk ((st.L.filter fun p=>!memN p.1 ns).map fun p=>(p.1,fzB (lk st.L) ns p.2))=cutM ns (lk st.L):=by
      funext m
      rw[znY (fzB (lk st.L) ns),zbM (fun m=>!memN m ns)]
      unfold cutM
      cases memN m ns<;>simp
    obtain ⟨S',R1,tr⟩:=R.rl.freezesM (ns:=ns) (fun n hn=>hr0 n (zbn.1 hn))
    have he:∀ t,(St.e { E:=st.E.map fun p=>(p.1,fzA (lk st.L) ns p.2),L:=(st.L.filter fun p=>!memN p.1 ns).map fun p=>(p.1,fzB (lk st.L) ns p.2) }) t=fzA (lk st.L) ns (st.e t):=by
      intro t
      simp only[St.e]
      rw[znY (fzA (lk st.L) ns)]
      cases lk st.E t<;>rfl
    refine ⟨S',?_,fun t=>?_,fun t ht=>?_⟩
    · show Rl k β S' [] (lk ((st.L.filter fun p=>!memN p.1 ns).map fun p=>(p.1,fzB (lk st.L) ns p.2))) a w
      rw[e1]
      exact R1
    · rw[he t]
      show RepA β S' w.heap (lk ((st.L.filter fun p=>!memN p.1 ns).map fun p=>(p.1,fzB (lk st.L) ns p.2))) _ _
      rw[e1]
      exact tr _ _ (R.env t)
    · rw[he t,R.big t ht]; rfl
theorem zkO {ts:List Nat} {st st':St} (h:fzSt ts st=some st') {k:Wk} {β:Nat→Value} {S:Nat→Prop} {a:Act} {w:World} (R:RlF k β S st.e (lk st.L) a w) :
    ∃ S',RlF k β S' st'.e (lk st'.L) a w:=by
  unfold fzSt at h
  split at h
  · cases h
    exact ⟨S,R⟩
  · simp only[Option.map_eq_some_iff]at h
    obtain ⟨s,h1,rfl⟩:=h
    obtain ⟨S',R1⟩:=zAb h1 R
    obtain ⟨M,tr⟩:=zAX R1.rl.mem
    exact ⟨S',{ R1.rl with mem:=M,env:=fun t x hx=>by cases hx },fun t=>tr _ _ (R1.env t),R1.big⟩
def cut (m:Nat) (st:St):St:={ E:=st.E.filter fun p=>Nat.blt p.1 m,L:=st.L }
def zBZ (ps:List Nat) (x:List PV) (st:St):St:={ E:=(ps.zip (x.map A.pv)).reverse++st.E,L:=st.L }
def rngP (f:List PV→St→(Ex→St→Prop)→Prop):List (List PV)→St→(Ex→St→Prop)→Prop
  | [],s,K=>K .normal s
  | x :: xs,s,K=>f x s (Ex.go K fun s=>rngP f xs s K)
structure Rng (tag:Nat) (f:List PV→St→(Ex→St→Prop)→Prop) (xs:List (List PV)) (st:St) (K:Ex→St→Prop):Prop where
  r:rngP f xs st K
def zk9 (o:Oper):Bool :=
  match o.op with
  | .defer _=>false
  | _=>true
def zge:Code→Bool
  | .region _ ops _=>ops.toList.all zk9
  | .seq a b=>zge a && zge b
  | .cond _ a b=>zge a && zge b
  | .block _ a=>zge a
  | .loop a=>zge a
  | .scope _=>false
  | .rangeFunc ..=>false
  | _=>true
def zw6 (C:CfgW) (m:Nat) (live:List Nat) (g:Operand) (ps:List Nat) (a b:Code) (st:St) (K:List (List PV)→St→Prop):Prop :=
  zal (zge a && zge b && Nat.ble C.np m && live.all (fun t=>Nat.blt t m) && ps.all fun t=>Nat.ble m t && Nat.blt t C.nt)
    (match zhC C.G st.e g with
    | .fn gf caps=>optP (C.it gf caps (lk st.L)) fun r=>zal (r.1.all fun n=>(lk st.L n).isSome && !memN n (zeN live st)) (zgh live st fun s=>K r.2 s) False
    | _=>False) False
def Ex.one (K:St→Prop) (e:Ex) (s:St):Prop :=
  match e with
  | .normal=>K s
  | _=>False
def zb1:CfgW→(Nat→List Nat)→Nat→Code→St→(Ex→St→Prop)→Prop
  | _,_,_,.skip,st,K=>K .normal st
  | C,lv,_,.region id ops draw,st,K=>zzo (lv (5000000+id)) st fun st=>optP (fzSt (lv (1000000+id)) st) fun st=>zml C ops draw st fun s=>K .normal s
  | C,lv,cur,.seq a b,st,K=>zb1 C lv cur a st (Ex.go K fun s=>zb1 C lv cur b s K)
  | C,lv,cur,.cond c a b,st,K=>match zhC C.G st.e c with
    | .pv (.sc .b t)=>zal t (zb1 C lv cur a st K) (zb1 C lv cur b st K)
    | _=>False
  | C,lv,_,.block id body,st,K=>zb1 C lv id body st (Ex.blk id K)
  | C,lv,cur,.loop body,st,K=>match lv (4000000+cur) with
    | n :: live=>optP (zuz live st) fun s=>zzs (fun s k=>zb1 C lv cur body s (Ex.go k fun s1=>optP (zuz live s1) (k .normal))) n s K
    | []=>zgh (lv cur) st fun s=>Loop cur (fun s k=>zb1 C lv cur body s (Ex.go k fun s1=>zgh (lv cur) s1 (k .normal))) s K
  | _,_,_,.exit id,st,K=>K (.exit id) st
  | _,lv,_,.ret,st,K=>optP (fzSt (lv 6000000) st) fun s=>K .ret s
  | C,lv,cur,.scope c,st,K=>zb1 C lv cur c st K
  | _,_,_,.label _,st,K=>K .normal st
  | C,lv,cur,.rangeFunc g ps a b,st,K=>zw6 C ((lv (3000000+cur)).headD 0) ((lv (3000000+cur)).drop 1) g ps.toList a b st fun xs s =>
      Rng cur (fun x s k=>zal (Nat.beq x.length ps.size) (zb1 { C with np:=(lv (3000000+cur)).headD 0 } lv cur a (zBZ ps.toList x s) (Ex.one fun s1 =>
        zb1 { C with np:=(lv (3000000+cur)).headD 0 } lv cur b s1 (Ex.go (fun e s=>k e (cut ((lv (3000000+cur)).headD 0) s)) fun s2=>zgh ((lv (3000000+cur)).drop 1) s2 fun s3=>k .normal s3))) False) xs s K
  | _,_,_,_,_,_=>False
end Go.Proofs.YtnolgfdjcipmmaaDoor.M
