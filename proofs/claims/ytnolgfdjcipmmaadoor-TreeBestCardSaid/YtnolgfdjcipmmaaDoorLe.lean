/- Part of the proofs: a reckoning of code on values by names, shown sound against the model. No condition. -/
import Derived.RangeFuncRecord
import Derived.RangeFuncCalls
import Derived.RangeFuncSeq
import Derived.LoopNIn
import Derived.OrdersIn
import Derived.Below
import Derived.OpenShut
import Derived.Handed
import Derived.MakeChecks
import Derived.Carry
import Derived.Maps.RangeRun
import Derived.Test.YtnolgfdjcipmmaaDoorLd
set_option linter.unusedVariables false
set_option linter.unusedSimpArgs false
set_option autoImplicit false
namespace Go.Proofs.YtnolgfdjcipmmaaDoor.M
open Go
section
variable {β:Nat→Value} {S S':Nat→Prop} {h h':Array Obj} {L:Nat→Option Blk}
def zcR (h h':Array Obj):Prop:=(∀ (b:Nat) c T fz,h[b]?=some (Obj.cells c T fz)→h'[b]?=h[b]?)∧∀ (b:Nat) es cl,h[b]?=some (Obj.map es cl)→h'[b]?=h[b]?
def CellsIn (S S':Nat→Prop) (h:Array Obj):Prop:=∀ b c T fz,S b→h[b]?=some (Obj.cells c T fz)→S' b
theorem CellsAt.less (hc:zcR h h') {b off:Nat} {vs:List Value} (r:CellsAt h b off vs):CellsAt h' b off vs:=by
 obtain ⟨c,T,fz,h1,h2⟩:=r
 exact ⟨c,T,fz,(hc.1 b c T fz h1).trans h1,h2⟩
theorem CellsIn.at (hS:CellsIn S S' h) {b off:Nat} {vs:List Value} (s:S b) (r:CellsAt h b off vs):S' b:=by
 obtain ⟨c,T,fz,h1,h2⟩:=r
 exact hS b c T fz s h1
mutual
theorem RepPV.less (hc:zcR h h') (hS:CellsIn S S' h):∀ {x vs},RepPV S h x vs→RepPV S' h' x vs
 | _,_,.sc k x=>.sc k x
 | _,_,.arr k n v=>.arr k n v
 | _,_,.st r=>.st (RepL.less hc hS r)
 | _,_,.ar e r=>.ar e (RepL.less hc hS r)
 | _,_,.sl e r=>.sl e (r.imp id fun ⟨b,off,e1,e2,e3⟩=>⟨b,off,e1,hS.at e2 e3,e3.less hc⟩)
 | _,_,.sp e q l r=>.sp e q (RepL.less hc hS l) (r.imp id fun ⟨b,off,e1,e2,e3⟩=>⟨b,off,e1,hS.at e2 e3,e3.less hc⟩)
 | _,_,.nilp=>.nilp
 | _,_,.nilm=>.nilm
 | _,_,.raw a b=>.raw a b
theorem RepL.less (hc:zcR h h') (hS:CellsIn S S' h):∀ {xs vs},RepL S h xs vs→RepL S' h' xs vs
 | _,_,.nil=>.nil
 | _,_,.cons a r=>.cons (RepPV.less hc hS a) (RepL.less hc hS r)
end
theorem RepRC.less (hc:zcR h h') (hS:CellsIn S S' h) {rc vs} (r:RepRC S h rc vs):RepRC S' h' rc vs:=by
 cases r with
 | s k xs=>exact .s k xs
 | p e r=>exact .p e (r.less hc hS)
mutual
theorem RepC.less (hc:zcR h h') (hS:CellsIn S S' h):∀ {x vs},RepC β S h L x vs→RepC β S' h' L x vs
 | _,_,.pv r=>.pv (r.less hc hS)
 | _,_,.st r=>.st (RepCL.less hc hS r)
 | _,_,.p e1 e2 e3=>.p e1 e2 e3
 | _,_,.pr e1 e2 e3 e4 e5 e6=>.pr e1 e2 e3 e4 e5 e6
 | _,_,.rp s1 s2 s3=>.rp (hS.at s1 s2) (s2.less hc) (s3.less hc hS)
 | _,_,.o e1 e2=>.o e1 e2
 | _,_,.vw e1 e2 e4 e5 e6 e7 e8=>.vw e1 e2 e4 e5 e6 e7 e8
 | _,_,.tup r=>.tup (RepT.less hc hS r)
 | _,_,.fn r=>.fn (RepT.less hc hS r)
 | _,_,.und=>.und
 | _,_,.bad=>.bad
theorem RepCL.less (hc:zcR h h') (hS:CellsIn S S' h):∀ {xs vs},RepCL β S h L xs vs→RepCL β S' h' L xs vs
 | _,_,.nil=>.nil
 | _,_,.cons a r=>.cons (RepC.less hc hS a) (RepCL.less hc hS r)
theorem RepT.less (hc:zcR h h') (hS:CellsIn S S' h):∀ {xs vs},RepT β S h L xs vs→RepT β S' h' L xs vs
 | _,_,.nil=>.nil
 | _,_,.cons a r=>.cons (RepC.less hc hS a) (RepT.less hc hS r)
end
theorem RepA.less (hc:zcR h h') (hS:CellsIn S S' h) {x:A} {v:Value} (r:RepA β S h L x v):RepA β S' h' L x v:=by
 obtain ⟨vs,r,e⟩:=r
 exact ⟨vs,r.less hc hS,e⟩
theorem RepM.less (hc:zcR h h') (hS:CellsIn S S' h):∀ {kv es},RepM S h kv es→RepM S' h' kv es
 | _,_,.nil=>.nil
 | _,_,.cons a b c d r=>.cons (a.less hc hS) (b.less hc hS) c d (RepM.less hc hS r)
theorem BlkOK.less (hc:zcR h h') (hS:CellsIn S S' h) {n:Nat} {b:Blk} (r:BlkOK β S h L n b):BlkOK β S' h' L n b:=by
 cases b with
 | box c =>
  obtain ⟨b,cs,T,h1,h2,h3⟩:=r
  exact ⟨b,cs,T,h1,(hc.1 _ _ _ _ h2).trans h2,h3.less hc hS⟩
 | map kv =>
  obtain ⟨r,es,clock,h1,h2,h3,h4⟩:=r
  exact ⟨r,es,clock,h1,(hc.2 _ _ _ h2).trans h2,h3.less hc hS,h4⟩
 | row rc ex =>
  obtain ⟨a,cap,h1,h2,h3,h4⟩:=r
  refine ⟨a,cap,h1,h2,h3,?_⟩
  rcases h4 with h4 | ⟨b,o,cs,T,q1,q2,q3,X,vs,Y,q4,q5,q6⟩
  ·exact .inl h4
  ·exact .inr ⟨b,o,cs,T,q1,(hc.1 _ _ _ _ q2).trans q2,q3,X,vs,Y,q4,q5,q6.less hc hS⟩
theorem MS.less (hc:zcR h h') (hS:CellsIn S S' h) (hsz:h.size≤h'.size) (hsub:∀ b,S' b→S b) {N0:Nat} {F:Nat→Prop} (M:MS β S h N0 F L):MS β S' h' N0 F L where
 blk n b hb:=(M.blk n b hb).less hc hS
 own n b hb k hk:=⟨fun hs=>(M.own n b hb k hk).1 (hsub _ hs),Nat.lt_of_lt_of_le (M.own n b hb k hk).2.1 hsz,(M.own n b hb k hk).2.2⟩
 sep:=M.sep
 bound k hk:=Nat.lt_of_lt_of_le (M.bound k (hsub _ hk)) hsz
theorem RlF.less {k:Wk} {e:Nat→A} {a:Act} {w w':World} (R:RlF k β S e L a w) (hc:zcR w.heap w'.heap) (hS:CellsIn S S' w.heap) (hsz:w.heap.size≤w'.heap.size) (hsub:∀ b,S' b→S b)
  (hk:∀ b,b < k.w0.heap.size→¬ k.F b→w'.heap[b]?=w.heap[b]?) (hos:w'.os=w.os) (ht:w'.tape=w.tape) (ho:w'.output=w.output) (hs0:∀ b,k.S0 b→S' b) {ds:List Deferred} (hd:DefOK S' w'.heap k.w0.heap.size ds) (hnd:k.nd=true→ds=[]) :
  RlF k β S' e L { a with defers:=ds } w' where
 rl:={
  mem:=R.rl.mem.less hc hS hsz hsub
  env:=fun t x hx=>by cases hx
  glob:=fun g x hg=>by
   obtain ⟨h1,vs,h2,h3⟩:=R.rl.glob g x hg
   exact ⟨hS.at h1 h3,vs,h2.less hc hS,h3.less hc⟩
  keep:=fun b hb hf=>(hk b hb hf).trans (R.rl.keep b hb hf)
  size:=Nat.le_trans R.rl.size hsz
  s0:=hs0
  sg:=fun b hb=>R.rl.sg b (hsub _ hb)
  os:=hos.trans R.rl.os
  tape:=ht.trans R.rl.tape
  output:=ho.trans R.rl.output
  nt:=R.rl.nt
  defers:=hd
  nd:=hnd
  par:=R.rl.par }
 env t:=(R.env t).less hc hS
 big:=R.big
end
theorem zbD {w:World} {D b:Nat} {o:Obj}:(w.putObj D o).heap[b]?=if D=b then(if D < w.heap.size then some o else none)else w.heap[b]?:=by
 simp only[World.putObj,Array.getElem?_setIfInBounds]
theorem RlF.take0 {k:Wk} {β:Nat→Value} {e:Nat→A} {L:Nat→Option Blk} (h0:∀ b,k.S0 b→b < k.w0.heap.size) {P:Program} {F:Fence} {n:Nat} {fn:Func} {R:Ending→World→Prop}:∀ (Ds:List Nat) {S:Nat→Prop} {a:Act} {w:World},a.defers=Ds.map zfa→RlF k β S e L a w →
  (∀ S' w',RlF k β S' e L { a with defers:=[] } w'→∃ v,(results fn a.tmps).run P w'=.ok v w'∧R (.returned v) w')→LeavesInM F n P fn a.tmps R a.defers .returning w
 | [],S,a,w,hd,r,hK=>by
  obtain ⟨v,h1,h2⟩:=hK S w (by have:=r; rw[show a={ a with defers:=[] } from by cases a; simp at hd; simp[hd]]at this; exact this)
  rw[hd]
  exact ⟨v,h1,h2⟩
 | D :: Ds,S,a,w,hd,r,hK=>by
  obtain ⟨Ds',e1,n1,q1⟩:=r.rl.defers
  have e2:Ds'=D :: Ds:=by
   have:Ds'.map zfa=(D :: Ds).map zfa:=e1.symm.trans hd
   exact (List.map_inj_right (fun x y h=>by simpa [zfa] using h)).1 this
  subst e2
  obtain ⟨s1,g1,o1⟩:=q1 D (by simp)
  have hlt:D < w.heap.size:=(Array.getElem?_eq_some_iff.1 o1).1
  have hsame:∀ b,b≠D→(w.putObj D (.deferred none)).heap[b]?=w.heap[b]?:=fun b hb=>by rw[zbD,if_neg (Ne.symm hb)]
  have hc:zcR w.heap (w.putObj D (.deferred none)).heap:=⟨fun b c T fz hb=>hsame b (fun e=>by subst e; rw[o1]at hb; cases hb),fun b es cl hb=>hsame b (fun e=>by subst e; rw[o1]at hb; cases hb)⟩
  rw[hd]
  refine ⟨by simp,.inl ⟨D,_,rfl,run_takeDeferred o1,?_⟩⟩
  have r2:=r.less (S':=fun b=>S b∧b≠D) (w':=w.putObj D (.deferred none)) (ds:=Ds.map zfa) hc (fun b c T fz hb hq=>⟨hb,fun e=>by subst e; rw[o1]at hq; cases hq⟩) (by simp) (fun b hb=>hb.1)
   (fun b hb _=>hsame b (by omega)) rfl rfl rfl (fun b hb=>⟨r.rl.s0 b hb,fun e=>by have:=h0 b hb; omega⟩)
   ⟨Ds,rfl,(List.nodup_cons.1 n1).2,fun D' hD'=>by
    have hne:D'≠D:=fun e=>by subst e; exact (List.nodup_cons.1 n1).1 hD'
    have:=q1 D' (by simp[hD'])
    exact ⟨⟨this.1,hne⟩,this.2.1,(hsame _ hne).trans this.2.2⟩⟩ (fun h=>by have:=r.rl.nd h; rw[hd]at this; cases this)
  exact RlF.take0 h0 Ds (a:={ a with defers:=Ds.map zfa }) rfl r2 hK
theorem RlF.take {k:Wk} {β:Nat→Value} {e:Nat→A} {L:Nat→Option Blk} {S:Nat→Prop} {a:Act} {w:World} (r:RlF k β S e L a w) (h0:∀ b,k.S0 b→b < k.w0.heap.size) {P:Program} {F:Fence} {n:Nat} {fn:Func} {R:Ending→World→Prop} (Ds:List Nat) (hd:a.defers=Ds.map zfa)
  (hK:∀ S' w',RlF k β S' e L { a with defers:=[] } w'→∃ v,(results fn a.tmps).run P w'=.ok v w'∧R (.returned v) w'):LeavesInM F n P fn a.tmps R a.defers .returning w:=RlF.take0 h0 Ds hd r hK
section
variable {P:Program} {r:Option Nat} {n:Nat}
abbrev FR (r:Option Nat):Fence:={ Fence.wide with round:=r }
theorem zze {o:Oper} (h:zlH o=true):∀ c,o.op≠.defer c:=by
 intro c e
 unfold zlH at h
 rw[e]at h
 cases h
theorem zIR {row:String} {args:Array Value} {w:World} {R:Value→World→Prop} (h:Rows P row args w R):RowsIn (FR r) n P row args w R:=fun c cs _=>by
 obtain ⟨v,w',q,s⟩:=h c cs
 exact ⟨v,w',q,stepsIn_wide.2 s⟩
theorem zJY {o:Oper} {a:Act} {w:World} {K:Act→World→Prop} {Q:Exit→Act→World→Prop} (hd:∀ c,o.op≠.defer c) (h:o.wp P a w K Q):o.wpIn (FR r) n P a w K Q:=by
 refine ⟨fun _ _=>trivial,?_⟩
 unfold Oper.wp at h
 rw[Oper.semAt_eq _ _ _ hd]
 generalize (execOp a.eval o).run P w=x at h ⊢
 cases x with
 | ok x w' =>
  cases x with
  | value v=>exact h
  | skip=>exact h
  | defer d=>exact h
  | enter f args=>exact ⟨(fun h=>by cases h),(callsIn_wide (n:=n - 1)).2 h⟩
  | row q args=>exact ⟨(fun h=>by cases h),zIR h⟩
  | _=>exact h.elim
 | halt x w' =>
  cases x with
  | panic v=>exact h
  | _=>exact h.elim
variable {ops:Array Oper} {Q:Exit→Act→World→Prop}
theorem zGj (hq:¬ LetsOut Q) (hd:ops.toList.all zlH=true) {i:Nat} {K K':Act→World→Prop} (hK:∀ a w,K a w→K' a w) {a:Act} {w:World} (h:wpOp P ops Q i K a w):wpOpIn (FR r) n P ops Q i K' a w:=by
 unfold wpOp at h
 unfold wpOpIn
 cases ho:ops[i]? with
 | none=>rw[ho]at h; exact hK _ _ h
 | some o =>
  rw[ho]at h
  simp only at h ⊢
  split
  ·rename_i hw
   rw[if_pos hw]at h
   rcases h with h | h
   ·have hm:o ∈ ops.toList:=by
     obtain ⟨h1,h2⟩:=Array.getElem?_eq_some_iff.1 ho
     rw[←h2]; simp
    exact Oper.wpIn_mono hK (zJY (zze (List.all_eq_true.1 hd o hm)) h)
   ·exact absurd h.2 hq
  ·rename_i hw
   rw[if_neg hw]at h
   exact ⟨fun _ _=>trivial,hK _ _ h⟩
theorem zDD (hq:¬ LetsOut Q) (hd:ops.toList.all zlH=true):∀ (is:List Nat) {a:Act} {w:World},wpOps P ops Q is a w→wpOpsIn (FR r) n P ops Q is a w
 | [],a,w,h=>h
 | i :: is,a,w,h=>by
  rw[wpOps_cons]at h
  rw[wpOpsIn_cons]
  exact zGj hq hd (fun a w h=>zDD hq hd is h) h
theorem zC6 (hq:¬ LetsOut Q) (hd:ops.toList.all zlH=true) {md:Region.Mode}:∀ (fuel:Nat) {ls:Array Bool} {a:Act} {w:World},wpAny P md ops Q fuel ls a w→wpAnyIn (FR r) n P md ops Q fuel ls a w
 | 0,ls,a,w,h=>h
 | fuel+1,ls,a,w,h=>⟨h.1,fun i hi=>zGj hq hd (fun a w h=>zC6 hq hd fuel h) (h.2 i hi)⟩
end
theorem znT {C:CfgW} (hC:CfgOK C.cfg) (hm:C.P.follows .mixedOrders=true) {k:Wk} (hk:k.G=C.G) (hn:k.nt=C.nt∧k.np=C.np) {lv:Nat→List Nat} {r:Option Nat} {n:Nat}:∀ (c:Code) (cur:Nat) {st:St} {K:Ex→St→Prop} {Q:Exit→Act→World→Prop},
  zhp c=true→¬ LetsOut Q→zcY C lv cur c st K→(∀ ex st',K ex st'→∀ β S a w,RlF k β S st'.e (lk st'.L) a w→Q ex.to a w)→∀ {β:Nat→Value} {S:Nat→Prop} {a:Act} {w:World},RlF k β S st.e (lk st.L) a w→c.wpIn (FR r) n C.P Q a w:=by
 intro c
 induction c with
 | skip =>
  intro cur st K Q _ hq h hQ β S a w R
  exact wpIn_skip (hQ _ _ h β S a w R)
 | region id ops draw =>
  intro cur st K Q hp hq h hQ β S a w R
  obtain ⟨st0,h,⟨hse,hsl⟩,_⟩:=znl h
  rw[←hse,←hsl]at R
  obtain ⟨st1,h0,h1⟩:=zaB.1 h
  obtain ⟨S1,R1⟩:=zlF h0 R
  have:=zqB hC hk hn h1 (fun st' h=>hQ _ _ h) R1
  cases draw with
  | false=>exact wpIn_region (zDD hq hp _ (this.1 rfl))
  | true=>exact wpIn_region_any hm (zC6 hq hp _ (this.2 rfl))
 | seq x y ihx ihy =>
  intro cur st K Q hp hq h hQ β S a w R
  simp only[zhp,Bool.and_eq_true]at hp
  refine wpIn_seq (ihx (Q:=Exit.then (y.wpIn (FR r) n C.P Q) Q) cur hp.1 (fun ⟨a,w,h⟩=>hq ⟨a,w,h⟩) h (fun ex st' h' β' S' a' w' R'=>?_) R)
  cases ex with
  | normal=>exact ihy cur hp.2 hq h' hQ R'
  | exit id=>exact hQ _ _ h' β' S' a' w' R'
  | ret=>exact hQ _ _ h' β' S' a' w' R'
 | cond c x y ihx ihy =>
  intro cur st K Q hp hq h hQ β S a w R
  simp only[zhp,Bool.and_eq_true]at hp
  simp only[zcY]at h
  split at h
  ·rename_i t ht
   have hv:=R.eval (C:=C.cfg) hk c
   have hv:RepA β S w.heap (lk st.L) (ziF C.G st.e c) (a.eval c):=hv
   rw[ht]at hv
   refine wpIn_cond (t:=t) hv.sc_inv ?_
   cases t with
   | true=>exact ihx cur hp.1 hq h hQ R
   | false=>exact ihy cur hp.2 hq h hQ R
  ·exact h.elim
 | block id body ih =>
  intro cur st K Q hp hq h hQ β S a w R
  refine wpIn_block (ih (Q:=Exit.inBlock id Q) id hp (fun ⟨a,w,h⟩=>hq ⟨a,w,h⟩) h (fun ex st' h' β' S' a' w' R'=>?_) R)
  cases ex with
  | normal=>exact hQ _ _ h' β' S' a' w' R'
  | ret=>exact hQ _ _ h' β' S' a' w' R'
  | exit j =>
   simp only[Ex.to,Exit.inBlock]
   simp only[Ex.blk]at h'
   by_cases hj:j=id
   ·subst hj
    simp only[Nat.beq_refl,cond_true]at h'
    rw[if_pos rfl]
    exact hQ _ _ h' β' S' a' w' R'
   ·rw[ziG hj]at h'
    simp only[cond_false]at h'
    rw[if_neg hj]
    exact hQ _ _ h' β' S' a' w' R'
 | loop body ih =>
  intro cur st K Q hp hq h hQ β S a w R
  simp only[zcY]at h
  split at h
  ·rename_i m live _
   obtain ⟨s0,h1,h5⟩:=zaB.1 h
   refine wpIn_loop_rounds m ?_
   have gen:∀ (m:Nat) {s:St} {β:Nat→Value} {S:Nat→Prop} {a:Act} {w:World},zzz (fun s k=>zcY C lv cur body s (Ex.go k fun s1=>optP (zvD live s1) (k .normal))) m s K→RlF k β S s.e (lk s.L) a w→Code.roundsIn (FR r) n C.P body Q m a w:=by
    intro m
    induction m with
    | zero=>intro s β S a w h _; exact h.elim
    | succ m ihm =>
     intro s β S a w h R
     rw[roundsIn_succ]
     refine ih (Q:=Exit.then (Code.roundsIn (FR r) n C.P body Q m) Q) cur hp (fun ⟨a,w,h⟩=>hq ⟨a,w,h⟩) h (fun ex st' h' β' S' a' w' R'=>?_) R
     cases ex with
     | normal =>
      obtain ⟨s2,h3,h4⟩:=zaB.1 h'
      rcases zhE h3 with rfl | h3
      ·exact ihm h4 R'
      ·obtain ⟨β2,R2⟩:=zdG h3 R'
       exact ihm h4 R2
     | exit id=>exact hQ _ _ h' β' S' a' w' R'
     | ret=>exact hQ _ _ h' β' S' a' w' R'
   rcases zhE h1 with rfl | h1
   ·exact gen m h5 R
   ·obtain ⟨β0,R0⟩:=zdG h1 R
    exact gen m h5 R0
  obtain ⟨s,h1,⟨m,h2⟩⟩:=zaB.1 h
  refine wpIn_loop_rounds m ?_
  have gen:∀ (m:Nat) {s:St} {β:Nat→Value} {S:Nat→Prop} {a:Act} {w:World},zzz (fun s k=>zcY C lv cur body s (Ex.go k fun s1=>zgY (lv cur) s1 (k .normal))) m s K→RlF k β S s.e (lk s.L) a w→Code.roundsIn (FR r) n C.P body Q m a w:=by
   intro m
   induction m with
   | zero=>intro s β S a w h _; exact h.elim
   | succ m ihm =>
    intro s β S a w h R
    rw[roundsIn_succ]
    refine ih (Q:=Exit.then (Code.roundsIn (FR r) n C.P body Q m) Q) cur hp (fun ⟨a,w,h⟩=>hq ⟨a,w,h⟩) h (fun ex st' h' β' S' a' w' R'=>?_) R
    cases ex with
    | normal =>
     obtain ⟨s2,h3,h4⟩:=zaB.1 h'
     obtain ⟨β2,R2⟩:=zdG h3 R'
     exact ihm h4 R2
    | exit id=>exact hQ _ _ h' β' S' a' w' R'
    | ret=>exact hQ _ _ h' β' S' a' w' R'
  obtain ⟨β0,R0⟩:=zdG h1 R
  exact gen m h2 R0
 | exit id =>
  intro cur st K Q hp hq h hQ β S a w R
  exact wpIn_exit (hQ _ _ h β S a w R)
 | ret =>
  intro cur st K Q hp hq h hQ β S a w R
  obtain ⟨st1,h0,h1⟩:=zaB.1 h
  obtain ⟨S1,R1⟩:=zlF h0 R
  exact wpIn_ret (hQ _ _ h1 β S1 a w R1)
 | label i =>
  intro cur st K Q hp hq h hQ β S a w R
  exact wpIn_label (hQ _ _ h β S a w R)
 | scope c ih =>
  intro cur st K Q hp
  cases hp
 | rangeFunc g ps a b _ _ =>
  intro cur st K Q hp
  cases hp
 | _ =>
  intro cur st K Q _ _ h
  exact h.elim
end Go.Proofs.YtnolgfdjcipmmaaDoor.M
namespace Go.Proofs.YtnolgfdjcipmmaaDoor.M
open Go
structure Ch (F:Nat→Prop) (w w':World):Prop where
 size:w.heap.size≤w'.heap.size
 keep:∀ b,b < w.heap.size→¬ F b→w'.heap[b]?=w.heap[b]?
 os:w'.os=w.os
 tape:w'.tape=w.tape
 output:w'.output=w.output
def zGw (β:Nat→Value) (ns:List Nat) (b:Nat):Prop:=∃ n,n ∈ ns∧fp (β n) b
def ItOK (P:Program) (G:Nat→Option PV) (gf:FuncId) (spec:List A→(Nat→Option Blk)→Option (List Nat × List (List PV))):Prop :=
 ∀ (w:World) (β:Nat→Value) (S:Nat→Prop) (N0:Nat) (F:Nat→Prop) (L:Nat→Option Blk) (args:List A) (vals:Array Value) (ns:List Nat) (xs:List (List PV)),spec args L=some (ns,xs) →
  zln G S w.heap→MS β S w.heap N0 F L→RepAs β S w.heap L args vals.toList →
  ∀ (l:Nat) (J:Nat→World→Prop) (Jx:World→Prop),
   (∀ i W W',Ch (zGw β ns) W W'→J i W→J i W')→(∀ W W',Ch (zGw β ns) W W'→Jx W→Jx W') →
   (∀ i x W (av:Array Value),xs[i]?=some x→w.heap.size≤W.heap.size→J i W→RepAs (fun _=>undef) (fun _=>False) #[] (fun _=>none) (x.map A.pv) av.toList →
    YieldAt Fence.wide 0 P l av W fun e W'=>(e=.returned (.bool true)∧J (i+1) W'∧Ch (fun b=>¬ (S b∨zGw β ns b)) W W')∨(e=.returned (.bool false)∧Jx W')) →
   J 0 w→Calls P gf (#[.func (.yield l) #[] #[]]++vals) w fun e W'=>(∃ v,e=.returned v)∧(J xs.length W'∨Jx W')
def ItsOK (P:Program) (G:Nat→Option PV) (it:Nat→List A→(Nat→Option Blk)→Option (List Nat × List (List PV))):Prop :=
 ∀ gf args L r,it gf args L=some r→zpR P gf=true∧ItOK P G gf (it gf)
theorem ItsOK.none {P:Program} {G:Nat→Option PV}:ItsOK P G fun _ _ _=>none:=fun _ _ _ _ h=>by cases h
section
variable {k:Wk} {β:Nat→Value} {S:Nat→Prop} {e:Nat→A} {L:Nat→Option Blk} {a:Act} {w w':World}
theorem BlkOK.cells {h:Array Obj} {n b:Nat} {blk:Blk} (r:BlkOK β S h L n blk) (hf:fp (β n) b):(∃ c T,h[b]?=some (.cells c T (0,0)))∨∃ es cl,h[b]?=some (.map es cl):=by
 cases blk with
 | box c =>
  obtain ⟨b',cs,T,h1,h2,h3⟩:=r
  rw[h1]at hf
  exact .inl ⟨cs,T,by rw[←show b'=b from hf]; exact h2⟩
 | map kv =>
  obtain ⟨r,es,clock,h1,h2,h3,h4⟩:=r
  rw[h1]at hf
  exact .inr ⟨es,clock,by rw[←show r=b from hf]; exact h2⟩
 | row rc ex =>
  obtain ⟨ad,cap,h1,h2,h3,h4⟩:=r
  rw[h1]at hf
  rcases h4 with h4 | ⟨b',o,cs,T,q1,q2,q3,_⟩
  ·subst h4
   cases ad with
   | none=>exact hf.elim
   | some ad=>exact absurd rfl hf.1
  ·subst q1
   exact .inl ⟨cs,T,by rw[←show b'=b from hf.2]; exact q2⟩
theorem MS.own_cells {h:Array Obj} {N0:Nat} {F:Nat→Prop} (M:MS β S h N0 F L) {b:Nat} (ho:Own β L b):(∃ c T,h[b]?=some (.cells c T (0,0)))∨∃ es cl,h[b]?=some (.map es cl):=by
 obtain ⟨n,blk,h1,h2⟩:=ho
 exact (M.blk n blk h1).cells h2
theorem RlF.turn (R:RlF k β S e L a w) (hS:∀ b,S b→w'.heap[b]?=w.heap[b]?) (hO:∀ b,Own β L b→w'.heap[b]?=w.heap[b]?) (hsz:w.heap.size≤w'.heap.size)
  (hk:∀ b,b < k.w0.heap.size→¬ k.F b→w'.heap[b]?=w.heap[b]?) (hos:w'.os=w.os) (ht:w'.tape=w.tape) (ho:w'.output=w.output):RlF k β S e L a w':=by
 have K:Keeps β β S S w.heap w'.heap L L (fun _ _ _=>true):=⟨fun _ h=>h,hS,fun v n π _ blk hb=>⟨rfl,blk,hb,SameAt.refl _ _ _⟩⟩
 have M:MS β S w'.heap k.w0.heap.size k.F L:=R.rl.mem.step K (fun _=>False) hsz (fun n b hb _=>⟨hb,rfl,Blk.all_true b,fun q hq=>hO q ⟨n,b,hb,hq⟩⟩) (fun n b _ h=>h.elim)
  (fun q hq=>⟨Nat.lt_of_lt_of_le (R.rl.mem.bound q hq) hsz,fun n b hb hf=>(R.rl.mem.own n b hb q hf).1 hq⟩)
 refine ⟨?_,fun t=>(R.env t).mono K (A.all_true _),R.big⟩
 exact (R.rl.world K M hsz hk (fun b hb=>.inl hb) hos ht ho).sub (by simp)
theorem RlF.ch {Fi:Nat→Prop} (R:RlF k β S e L a w) (h:Ch Fi w w') (hS:∀ b,S b→¬ Fi b) (hO:∀ b,Own β L b→¬ Fi b) (hF:∀ b,Fi b→k.w0.heap.size≤b∨k.F b):RlF k β S e L a w':=by
 refine R.turn (fun b hb=>h.keep b (R.rl.mem.bound b hb) (hS b hb)) (fun b hb=>h.keep b ?_ (hO b hb)) h.size (fun b hb hf=>h.keep b (Nat.lt_of_lt_of_le hb R.rl.size) fun hi=>?_) h.os h.tape h.output
 ·obtain ⟨n,blk,h1,h2⟩:=hb
  exact (R.rl.mem.own n blk h1 b h2).2.1
 ·rcases hF b hi with h1 | h1
  ·omega
  ·exact hf h1
def subK (k:Wk) (β:Nat→Value) (S:Nat→Prop) (L:Nat→Option Blk) (a:Act) (w:World) (m:Nat):Wk :=
 {w0:=w,F:=Own β L,S0:=S,G:=k.G,nt:=k.nt,np:=m,par:=fun t=>a.tmps.getD t undef,nd:=true }
theorem RlF.enter (R:RlF k β S e L a w) (m:Nat):RlF (subK k β S L a w m) β S e L { a with defers:=[] } w where
 rl:={
  mem:=⟨R.rl.mem.blk,fun n b hb q hq=>⟨(R.rl.mem.own n b hb q hq).1,(R.rl.mem.own n b hb q hq).2.1,.inr ⟨n,b,hb,hq⟩⟩,R.rl.mem.sep,R.rl.mem.bound⟩
  env:=fun t x hx=>by cases hx
  glob:=R.rl.glob
  keep:=fun _ _ _=>rfl
  size:=Nat.le_refl _
  s0:=fun _ h=>h
  sg:=fun _ h=>.inl h
  os:=rfl
  tape:=rfl
  output:=rfl
  nt:=R.rl.nt
  defers:=.nil
  nd:=fun _=>rfl
  par:=fun _ _=>rfl }
 env:=R.env
 big:=R.big
variable {β':Nat→Value} {S':Nat→Prop} {e':Nat→A} {L':Nat→Option Blk} {a':Act} {m:Nat}
theorem RlF.sub_ch (R2:RlF (subK k β S L a w m) β' S' e' L' a' w'):Ch (Own β L) w w':=⟨R2.rl.size,R2.rl.keep,R2.rl.os,R2.rl.tape,R2.rl.output⟩
theorem RlF.join (R:RlF k β S e L a w) (hm:k.np≤m) (R2:RlF (subK k β S L a w m) β' S' e' L' a' w'):RlF k β' S' e' L' { a' with defers:=a.defers } w':=by
 have own:∀ b,Own β L b→¬ S b∧b < w.heap.size∧(k.w0.heap.size≤b∨k.F b):=fun b ⟨n,blk,h1,h2⟩=>R.rl.mem.own n blk h1 b h2
 have up:∀ b,(w.heap.size≤b∨Own β L b)→k.w0.heap.size≤b∨k.F b:=fun b h=>h.elim (fun h=>.inl (Nat.le_trans R.rl.size h)) fun h=>(own b h).2.2
 refine ⟨{
  mem:=⟨R2.rl.mem.blk,fun n b hb q hq=>⟨(R2.rl.mem.own n b hb q hq).1,(R2.rl.mem.own n b hb q hq).2.1,up q (R2.rl.mem.own n b hb q hq).2.2⟩,R2.rl.mem.sep,R2.rl.mem.bound⟩
  env:=fun t x hx=>by cases hx
  glob:=R2.rl.glob
  keep:=fun b hb hf=>(R2.rl.keep b (Nat.lt_of_lt_of_le hb R.rl.size) fun ho=>((own b ho).2.2.elim (fun h=>by omega) hf)).trans (R.rl.keep b hb hf)
  size:=Nat.le_trans R.rl.size R2.rl.size
  s0:=fun b hb=>R2.rl.s0 b (R.rl.s0 b hb)
  sg:=fun b hb=>?_
  os:=R2.rl.os.trans R.rl.os
  tape:=R2.rl.tape.trans R.rl.tape
  output:=R2.rl.output.trans R.rl.output
  nt:=R2.rl.nt
  defers:=R.rl.defers.mono (fun b hb=>R2.rl.s0 b hb) (fun b hb=>R2.rl.keep b (R.rl.mem.bound b hb) fun ho=>(own b ho).1 hb)
  nd:=R.rl.nd
  par:=fun t ht=>(R2.rl.par t (Nat.lt_of_lt_of_le ht hm)).trans (R.rl.par t ht) },R2.env,R2.big⟩
 rcases R2.rl.sg b hb with h | h
 ·exact R.rl.sg b h
 ·exact .inr (up b h)
theorem RlF.cutTo (R:RlF k β S e L a w) {a1:Act} (ha:∀ t,t < m→a1.tmps.getD t undef=a.tmps.getD t undef) (hp:k.np≤m) (hn:a1.tmps.size=k.nt) (hd:a1.defers=a.defers) (he:∀ t,e' t=e t∨e' t=.bad) (hm:∀ t,m≤t→e' t=.bad):RlF k β S e' L a1 w where
 rl:={ R.rl with
  env:=fun t x hx=>by cases hx
  nt:=hn
  defers:=by rw[hd]; exact R.rl.defers
  nd:=by rw[hd]; exact R.rl.nd
  par:=fun t ht=>by rw[ha t (Nat.lt_of_lt_of_le ht hp)]; exact R.rl.par t ht }
 env t:=by
  by_cases h:m≤t
  ·rw[hm t h]; exact RepA.bad _
  ·rw[ha t (by omega)]
   rcases he t with h | h
   ·rw[h]; exact R.env t
   ·rw[h]; exact RepA.bad _
 big t ht:=by
  rcases he t with h | h
  ·rw[h]; exact R.big t ht
  ·exact h
end
theorem RepAs.up {β:Nat→Value} {S:Nat→Prop} {h:Array Obj} {L:Nat→Option Blk}:∀ {x:List PV} {vs:List Value},RepAs (fun _=>undef) (fun _=>False) #[] (fun _=>none) (x.map A.pv) vs→RepAs β S h L (x.map A.pv) vs
 | [],_,.nil=>.nil
 | x :: xs,_,.cons a r=>by
  obtain ⟨vs,r1,rfl⟩:=a.pv_inv
  exact .cons (RepA.pv (r1.mono (fun _ h=>h.elim) (fun _ h=>h.elim))) r.up
theorem RepAs.len {β:Nat→Value} {S:Nat→Prop} {h:Array Obj} {L:Nat→Option Blk}:∀ {x:List A} {vs:List Value},RepAs β S h L x vs→vs.length=x.length
 | _,_,.nil=>rfl
 | _,_,.cons _ r=>by simp[r.len]
theorem zyy {α:Type}:∀ (l r:List (Nat × α)) (t:Nat),lk (l++r) t=match lk l t with | some x=>some x | none=>lk r t
 | [],r,t=>rfl
 | (m,x) :: l,r,t=>by
  rw[List.cons_append,zaD,zaD,zyy l r t]
  by_cases h:m=t
  ·rw[if_pos h,if_pos h]
  ·rw[if_neg h,if_neg h]
theorem zu2 {β:Nat→Value} {S:Nat→Prop} {h:Array Obj} {L:Nat→Option Blk}:∀ (ps:List Nat) (x:List A) (vs:List Value) (E:List (Nat × A)) (tm:Array Value),RepAs β S h L x vs→ps.length=x.length→(∀ p ∈ ps,p < tm.size) →
  (∀ t,RepA β S h L ((lk E t).getD .bad) (tm.getD t undef))→∀ t,RepA β S h L ((lk ((ps.zip x).reverse++E) t).getD .bad) (((ps.zip vs).foldl (fun t (p,v)=>t.setIfInBounds p v) tm).getD t undef)
 | [],_,_,E,tm,_,_,_,hE,t=>by simpa using hE t
 | p :: ps,x :: xs,v :: vs,E,tm,.cons a r,hl,hp,hE,t=>by
  have ih:=zu2 ps xs vs ((p,x) :: E) (tm.setIfInBounds p v) r (by simpa using hl) (fun q hq=>by simpa using hp q (by simp[hq])) (fun t=>by
   rw[zaD]
   have hlt:=hp p (by simp)
   by_cases h:p=t
   ·subst h
    rw[if_pos rfl]
    have:(tm.setIfInBounds p v).getD p undef=v:=by simp[Array.getD_eq_getD_getElem?,hlt]
    rw[this]; exact a
   ·rw[if_neg h]
    have:(tm.setIfInBounds p v).getD t undef=tm.getD t undef:=by simp[Array.getD_eq_getD_getElem?,Array.getElem?_setIfInBounds_ne h]
    rw[this]; exact hE t) t
  simpa [List.zip_cons_cons] using ih
theorem zma:∀ (l:List (Nat × Value)) (tm:Array Value),(l.foldl (fun t (p,v)=>t.setIfInBounds p v) tm).size=tm.size
 | [],_=>rfl
 | (p,v) :: l,tm=>by rw[List.foldl_cons,zma l]; simp
theorem zpX:∀ (l:List (Nat × Value)) (tm:Array Value) {t:Nat},(∀ p ∈ l,p.1≠t)→(l.foldl (fun t (p,v)=>t.setIfInBounds p v) tm).getD t undef=tm.getD t undef
 | [],_,_,_=>rfl
 | (p,v) :: l,tm,t,h=>by
  rw[List.foldl_cons,zpX l _ (fun q hq=>h q (by simp[hq]))]
  have:p≠t:=h (p,v) (by simp)
  simp[Array.getD_eq_getD_getElem?,Array.getElem?_setIfInBounds_ne this]
section
variable {k:Wk} {β:Nat→Value} {S:Nat→Prop} {e:Nat→A} {L:Nat→Option Blk} {a:Act} {w w':World}
theorem RlF.addMark (R:RlF k β S e L a w) (hnd:k.nd=false) {D:Nat} (hD:D < w.heap.size) (hS:¬ S D) (hno:¬ Own β L D) (hge:k.w0.heap.size≤D) (hd:w.heap[D]?=some (.deferred (some []))) :
  RlF k β (fun b=>S b∨b=D) e L { a with defers:=zfa D :: a.defers } w:=by
 have K:Keeps β β S (fun b=>S b∨b=D) w.heap w.heap L L (fun _ _ _=>true):=⟨fun _ h=>.inl h,fun _ _=>rfl,fun v n π _ blk hb=>⟨rfl,blk,hb,SameAt.refl _ _ _⟩⟩
 have M:MS β (fun b=>S b∨b=D) w.heap k.w0.heap.size k.F L:=R.rl.mem.step K (fun _=>False) (Nat.le_refl _) (fun n b hb _=>⟨hb,rfl,Blk.all_true b,fun q _=>rfl⟩) (fun n b _ h=>h.elim)
  (fun q hq=>by
   rcases hq with hq | rfl
   ·exact ⟨R.rl.mem.bound q hq,fun n b hb hf=>(R.rl.mem.own n b hb q hf).1 hq⟩
   ·exact ⟨hD,fun n b hb hf=>hno ⟨n,b,hb,hf⟩⟩)
 have W:=R.rl.world (w':=w) K M (Nat.le_refl _) (fun _ _ _=>rfl) (fun b hb=>hb.elim .inl fun h=>.inr (.inl (h ▸ hge))) rfl rfl rfl
 obtain ⟨Ds,e1,n1,q1⟩:=R.rl.defers
 refine ⟨{ W with defers:=⟨D :: Ds,by rw[List.map_cons,←e1],List.nodup_cons.2 ⟨fun h=>hS (q1 D h).1,n1⟩,fun D' hD'=>?_⟩,env:=(fun t x hx=>by cases hx),nt:=R.rl.nt,par:=R.rl.par,nd:=fun h=>by rw[hnd]at h; cases h },fun t=>(R.env t).mono K (A.all_true _),R.big⟩
 rcases List.mem_cons.1 hD' with rfl | hD'
 ·exact ⟨.inr rfl,hge,hd⟩
 ·exact ⟨.inl (q1 D' hD').1,(q1 D' hD').2⟩
end
theorem zzK {live:List Nat} {st st':St} (h:zAl live st=some st') {t:Nat} (ht:t ∉ live):st'.e t=.bad:=by
 unfold zAl at h
 simp only at h
 split at h
 ·cases h
  show (lk (live.map fun t=>(t,(st.e t).ren (renF (zf0 live st)))) t).getD A.bad=A.bad
  rw[zwj (fun t=>(st.e t).ren (renF (zf0 live st))),if_neg ht]; rfl
 ·cases h
theorem zJs (m:Nat) (st:St) (t:Nat):(cut m st).e t=if t < m then st.e t else .bad:=by
 simp only[St.e,cut]
 rw[zcz (fun q=>Nat.blt q m)]
 by_cases h:t < m
 ·rw[if_pos h,if_pos (by simp[Nat.blt_eq,h])]
 ·rw[if_neg h,if_neg (by simp[Nat.blt_eq,h])]; rfl
end Go.Proofs.YtnolgfdjcipmmaaDoor.M
namespace Go.Proofs.YtnolgfdjcipmmaaDoor.M
open Go
def Ex.code:Ex→Option Code
 | .normal=>none
 | .exit i=>some (.exit i)
 | .ret=>some .ret
theorem zGr {C:CfgW} (hC:CfgOK C.cfg) (hI:ItsOK C.P C.G C.it) (hm:C.P.follows .mixedOrders=true) {k:Wk} (hk:k.G=C.G) (hn:k.nt=C.nt∧k.np=C.np) (hnd:k.nd=false) {lv:Nat→List Nat} {cur:Nat} {g:Operand} {ps:Array Tmp} {as bd:Code}
  {st:St} {K:Ex→St→Prop} {Q:Exit→Act→World→Prop} (h:zcY C lv cur (.rangeFunc g ps as bd) st K) (hQ:∀ ex st',K ex st'→∀ β S a w,RlF k β S st'.e (lk st'.L) a w→Q ex.to a w)
  {β:Nat→Value} {S:Nat→Prop} {a:Act} {w:World} (R:RlF k β S st.e (lk st.L) a w):(Code.rangeFunc g ps as bd).wp C.P Q a w:=by
 simp only[zcY,zyi]at h
 generalize (lv (3000000+cur)).headD 0=m at h
 generalize (lv (3000000+cur)).drop 1=live at h
 cases hpl:(zhp as && zhp bd && Nat.ble C.np m && live.all (fun t=>Nat.blt t m) && ps.toList.all fun t=>Nat.ble m t && Nat.blt t C.nt) with
 | false=>rw[hpl]at h; exact h.elim
 | true =>
 rw[hpl]at h
 simp only[Bool.and_eq_true,List.all_eq_true,Nat.ble_eq,Nat.blt_eq]at hpl
 obtain ⟨⟨⟨⟨pa,pb⟩,hmn⟩,hlive⟩,hps⟩:=hpl
 simp only[zaf]at h
 have hkm:k.np≤m:=by rw[hn.2]; exact hmn
 split at h
 case h_2=>exact h.elim
 rename_i gf caps hgf
 obtain ⟨⟨ns,xs⟩,hit,h⟩:=zaB.1 h
 simp only at h
 cases hdis:(ns.all fun n=>(lk st.L n).isSome && !memN n (zf0 live st)) with
 | false=>rw[hdis]at h; exact h.elim
 | true =>
 rw[hdis]at h
 simp only[List.all_eq_true,Bool.not_eq_true',Bool.and_eq_true]at hdis
 obtain ⟨s0,hcan,⟨h⟩⟩:=zaB.1 h
 obtain ⟨f,hf,h⟩:∃ f:List PV→St→(Ex→St→Prop)→Prop,(∀ x s k,f x s k=zaf (Nat.beq x.length ps.size) (zcY { C with np:=m } lv cur as (zDt ps.toList x s) (Ex.one fun s1 =>
    zcY { C with np:=m } lv cur bd s1 (Ex.go (fun e s=>k e (cut m s)) fun s2=>zgY live s2 fun s3=>k .normal s3))) False)∧rngP f xs s0 K:=⟨_,fun _ _ _=>rfl,h⟩
 obtain ⟨hbod,hIt⟩:=hI gf caps _ _ hit
 have hC':CfgOK ({ C with np:=m }:CfgW).cfg:=⟨fun g ys mem r hr=>hC.fn g ys mem r hr⟩
 have hg:=R.eval (C:=C.cfg) hk g
 have hg:RepA β S w.heap (lk st.L) (ziF C.G st.e g) (a.eval g):=hg
 rw[hgf]at hg
 obtain ⟨gvs,rv,ev⟩:=hg
 cases rv with
 | fn rt =>
 rename_i cv
 have ev:a.eval g=.func (.func gf) #[] cv.toArray:=ev
 obtain ⟨β0,R0,inv0⟩:=zkz hcan R
 let Fi:Nat→Prop:=zGw β ns
 have fiOwn:∀ b,Fi b→Own β (lk st.L) b:=fun b ⟨n,h1,h2⟩=>by
  obtain ⟨blk,hb⟩:=Option.isSome_iff_exists.1 (hdis n h1).1
  exact ⟨n,blk,hb,h2⟩
 have fi:∀ b,Fi b→¬ S b∧b < w.heap.size∧(k.w0.heap.size≤b∨k.F b):=fun b hb=>by
  obtain ⟨n,blk,h1,h2⟩:=fiOwn b hb
  exact R.rl.mem.own n blk h1 b h2
 have fiO:∀ b,Own β0 (lk s0.L) b→¬ Fi b:=fun b ⟨n',b',h1,h2⟩ ⟨n2,h3,h4⟩=>by
  obtain ⟨n,b0,q1,q2,q3⟩:=inv0 n' b' h1
  rw[q3]at h2
  have hd:=hdis n2 h3
  refine R.rl.mem.sep n n2 (fun e=>?_) (by rw[q2]; rfl) hd.1 b h2 h4
  subst e
  exact absurd (zbU.2 q1) (by rw[hd.2]; simp)
 refine wpIn_wide (n:=0).1 (wpIn_rangeFunc (F:=Fence.wide) (n:=0) fun fn hfn=>?_)
 obtain ⟨rec,hrec⟩:∃ rec:LoopState→Option Code→Go.Loop,rec=fun st pe=>{ state:=st,pending:=pe,fn,tmps:=a.tmps,params:=ps,assign:=as,body:=bd,defers:=w.heap.size }:=⟨_,rfl⟩
 obtain ⟨W1,hW1⟩:∃ W1,(w.alloc (.deferred (some []))).alloc (.loop (rec .ready none))=W1:=⟨_,rfl⟩
 have hsz1:W1.heap.size=w.heap.size+2:=by rw[←hW1]; simp
 have hL1:W1.heap[w.heap.size+1]?=some (.loop (rec .ready none)):=by
  rw[←hW1]; have:=World.alloc_heap_new (w.alloc (.deferred (some []))) (.loop (rec .ready none)); rwa [World.size_alloc]at this
 have hD1:W1.heap[w.heap.size]?=some (.deferred (some [])):=by
  rw[←hW1]; exact (Go.RowKit.Below.heap_alloc _ _ _ (by simp)).trans (World.alloc_heap_new w _)
 have hold1:∀ b,b < w.heap.size→W1.heap[b]?=w.heap[b]?:=fun b hb=>by
  rw[←hW1]; exact (Go.RowKit.Below.heap_alloc _ _ _ (by simp; omega)).trans (Go.RowKit.Below.heap_alloc _ _ _ hb)
 have ownlt:∀ {β:Nat→Value} {S:Nat→Prop} {e:Nat→A} {L:Nat→Option Blk} {a:Act} {w:World} (_:RlF k β S e L a w) b,Own β L b→b < w.heap.size:=fun r b ⟨n,blk,h1,h2⟩=>(r.rl.mem.own n blk h1 b h2).2.1
 have up1:∀ {β:Nat→Value} {S:Nat→Prop} {e:Nat→A} {L:Nat→Option Blk} (_:RlF k β S e L a w),RlF k β S e L a W1:=fun r =>
  r.turn (fun b hb=>hold1 b (r.rl.mem.bound b hb)) (fun b hb=>hold1 b (ownlt r b hb)) (by omega) (fun b hb _=>hold1 b (Nat.lt_of_lt_of_le hb r.rl.size)) (by rw[←hW1]; rfl) (by rw[←hW1]; rfl) (by rw[←hW1]; rfl)
 have R1:=up1 R
 have R01:=up1 R0
 have hown01:∀ b,Own β0 (lk s0.L) b→b < w.heap.size:=ownlt R0
 have RJ:=R01.addMark hnd (D:=w.heap.size) (by omega) (fun h=>Nat.lt_irrefl _ (R.rl.mem.bound _ h)) (fun h=>Nat.lt_irrefl _ (hown01 _ h)) R.rl.size hD1
 have notcell:∀ {β:Nat→Value} {S:Nat→Prop} {e:Nat→A} {L:Nat→Option Blk} {a:Act} {w2:World} {r:Go.Loop} (_:RlF k β S e L a w2),w2.heap[w.heap.size+1]?=some (.loop r)→¬ Own β L (w.heap.size+1):=fun r h ho=>by
  rcases r.rl.mem.own_cells ho with ⟨c,T,hc⟩ | ⟨es,cl,hc⟩<;>(rw[h]at hc; cases hc)
 refine ⟨w.heap.size+1,[zfa w.heap.size],W1,{ target:=.fn (.func gf) cv.toArray,args:=#[.func (.yield (w.heap.size+1)) #[] #[]] },W1,gf,#[.func (.yield (w.heap.size+1)) #[] #[]]++cv.toArray,W1,?_,?_,fun _ _=>trivial,?_,(fun h=>by cases h),?_⟩
 ·rw[←hW1,hrec]; exact run_enterLoop_outer _ _ _ _ _
 ·simp only[resolve,ev]
  simp[go_sem]
 ·unfold zpR at hbod
  cases hfun:C.P.funcs[gf]? with
  | none=>rw[hfun]at hbod; cases hbod
  | some fn =>
   rw[hfun]at hbod
   simp only[Bool.and_eq_true,bne_iff_ne,ne_eq]at hbod
   obtain ⟨hb1,hb2⟩:=hbod
   have hbn:fn.body.isNone=false:=by
    cases hq:fn.body with
    | none=>rw[hq]at hb1; cases hb1
    | some _=>rfl
   have hb3:fn.body≠none:=fun e=>by rw[e]at hbn; cases hbn
   simp[invoke,callFunc,run_program,hfun,hb2,hb3,Sem.run_bind]
 ·refine callsIn_wide.2 (Calls.mono (hIt W1 β S k.w0.heap.size k.F (lk st.L) caps cv.toArray ns xs hit (by rw[←hk]; exact R1.rl.glob) R1.rl.mem (by simpa using zpP (rt.mono (K:=⟨fun _ h=>h,fun b hb=>hold1 b (R.rl.mem.bound b hb),fun v n π _ blk hb=>⟨rfl,blk,hb,SameAt.refl _ _ _⟩⟩) (m:=fun _ _ _=>true) (A.allL_true _)))
   (w.heap.size+1)
   (fun i W=>∃ (s:St) (β':Nat→Value) (S':Nat→Prop),rngP f (xs.drop i) s K∧RlF k β' S' s.e (lk s.L) { a with defers:=zfa w.heap.size :: a.defers } W∧(∀ b,S b→S' b)∧(∀ b,S' b→b≠w.heap.size+1∧¬ Fi b)∧(∀ b,Own β' (lk s.L) b→¬ Fi b)∧W.heap[w.heap.size+1]?=some (.loop (rec .ready none))∧W1.heap.size≤W.heap.size∧∀ t,m≤t→s.e t=.bad)
   (fun W=>∃ (ex:Ex) (c:Code) (s:St) (β':Nat→Value) (S':Nat→Prop),K ex s∧ex.code=some c∧RlF k β' S' s.e (lk s.L) { a with defers:=zfa w.heap.size :: a.defers } W∧(∀ b,S' b→b≠w.heap.size+1∧¬ Fi b)∧(∀ b,Own β' (lk s.L) b→¬ Fi b)∧W.heap[w.heap.size+1]?=some (.loop (rec .done (some c)))∧W1.heap.size≤W.heap.size)
   ?_ ?_ ?_ ?_) ?_)
  ·rintro i W W' hch ⟨s,β',S',h1,h2,h3,h4,h5,h6,h7,h8⟩
   refine ⟨s,β',S',h1,h2.ch hch (fun b hb=>(h4 b hb).2) h5 (fun b hb=>(fi b hb).2.2),h3,h4,h5,?_,Nat.le_trans h7 hch.size,h8⟩
   rw[hch.keep _ (by omega) (fun hf=>by have:=(fi _ hf).2.1; omega)]
   exact h6
  ·rintro W W' hch ⟨ex,c,s,β',S',h1,h2,h3,h4,h5,h6,h7⟩
   refine ⟨ex,c,s,β',S',h1,h2,h3.ch hch (fun b hb=>(h4 b hb).2) h5 (fun b hb=>(fi b hb).2.2),h4,h5,?_,Nat.le_trans h7 hch.size⟩
   rw[hch.keep _ (by omega) (fun hf=>by have:=(fi _ hf).2.1; omega)]
   exact h6
  ·
   rintro i x W av hx hge ⟨s,β1,S1,h1,r1,hS1,hn1,ho1,hl,hge1,hbig⟩ hav
   have hdrop:xs.drop i=x :: xs.drop (i+1):=by
    have hlt:=(List.getElem?_eq_some_iff.1 hx).1
    rw[List.drop_eq_getElem_cons hlt,(List.getElem?_eq_some_iff.1 hx).2]
   rw[hdrop]at h1
   have h1:f x s (Ex.go K fun s=>rngP f (xs.drop (i+1)) s K):=h1
   rw[hf]at h1
   cases hlen:Nat.beq x.length ps.size with
   | false=>rw[hlen]at h1; exact h1.elim
   | true =>
   rw[hlen]at h1
   simp only[zaf]at h1
   have hlen:=nbeq.1 hlen
   have havl:av.size=ps.size:=by
    have:=hav.len
    rw[List.length_map,hlen]at this
    simpa using this
   have hy:=run_yield (P:=C.P) (args:=av) hl (by rw[hrec]; exact havl)
   rw[hrec]at hy
   have hlW:w.heap.size+1 < W.heap.size:=(Array.getElem?_eq_some_iff.1 hl).1
   obtain ⟨tm,htm⟩:∃ tm,(ps.zip av).foldl (fun(t:Array Value) ((p,v):Nat × Value)=>t.setIfInBounds p v) a.tmps=tm:=⟨_,rfl⟩
   refine ⟨fn,tm,as,bd,(by rw[←htm]; exact hy),roundIn_of_wpIn trivial ?_⟩
   have htm':(ps.toList.zip av.toList).foldl (fun(t:Array Value) ((p,v):Nat × Value)=>t.setIfInBounds p v) a.tmps=tm:=by rw[←htm,←Array.foldl_toList]; simp
   have hsz:tm.size=a.tmps.size:=by rw[←htm']; exact zma _ _
   have hlow:∀ t,t < m→tm.getD t undef=a.tmps.getD t undef:=fun t ht=>by
    rw[←htm']
    refine zpX _ _ fun p hp e=>?_
    have:=(hps p.1 (List.of_mem_zip hp).1).1
    omega
   have hnt:a.tmps.size=k.nt:=r1.rl.nt
   have r2:RlF k β1 S1 (zDt ps.toList x s).e (lk s.L) { tmps:=tm,defers:=zfa w.heap.size :: a.defers } W:=by
    refine ⟨{ r1.rl with
     env:=fun t x hx=>by cases hx
     nt:=hsz.trans hnt
     par:=fun t ht=>(hlow t (Nat.lt_of_lt_of_le ht hkm)).trans (r1.rl.par t ht) },fun t=>?_,fun t ht=>?_⟩
    ·show RepA β1 S1 W.heap (lk s.L) ((lk ((ps.toList.zip (x.map A.pv)).reverse++s.E) t).getD .bad) (tm.getD t undef)
     rw[←htm']
     refine zu2 ps.toList (x.map A.pv) av.toList s.E a.tmps hav.up (by simp[hlen]) (fun p hp=>?_) (fun t=>r1.env t) t
     have:=(hps p hp).2
     rw[hnt,hn.1]; exact this
    ·show (lk ((ps.toList.zip (x.map A.pv)).reverse++s.E) t).getD .bad=.bad
     rw[zyy]
     have:lk (ps.toList.zip (x.map A.pv)).reverse t=none:=by
      cases hq:lk (ps.toList.zip (x.map A.pv)).reverse t with
      | none=>rfl
      | some y =>
       have h3:=List.mem_reverse.1 (zcn hq)
       have:=(hps _ (List.of_mem_zip h3).1).2
       rw[hn.1]at ht
       omega
     rw[this]
     exact r1.big t ht
   have r3:=r2.enter m
   refine znT (C:={ C with np:=m }) hC' hm (k:=subK k β1 S1 (lk s.L) { tmps:=tm,defers:=zfa w.heap.size :: a.defers } W m) hk ⟨hn.1,rfl⟩ as cur pa (fun ⟨_,_,h⟩=>h) h1 (fun ex st1 h2 β2 S2 a2 W2 q2=>?_) r3
   cases ex with
   | exit id=>exact h2.elim
   | ret=>exact h2.elim
   | normal =>
   have h2:zcY { C with np:=m } lv cur bd st1 _:=h2
   have j2:=r2.join hkm q2
   have c2:=q2.sub_ch
   have hl2:W2.heap[w.heap.size+1]?=some (.loop (rec .ready none)):=(c2.keep _ hlW (notcell r2 hl)).trans hl
   have fiW:∀ b,Fi b→b < W.heap.size:=fun b hb=>by have:=(fi b hb).2.1; omega
   have own2:∀ b,Own β2 (lk st1.L) b→¬ Fi b:=fun b ⟨n,blk,e1,e2⟩ hfi=>by
    rcases (q2.rl.mem.own n blk e1 b e2).2.2 with h | h
    ·have h:W.heap.size≤b:=h
     have:=fiW b hfi
     omega
    ·exact ho1 b h hfi
   have no2:∀ b,S2 b→b≠w.heap.size+1∧¬ Fi b:=fun b hb=>by
    rcases q2.rl.sg b hb with h | h | h
    ·exact hn1 b h
    ·have h:W.heap.size≤b:=h
     exact ⟨by omega,fun hfi=>by have:=fiW b hfi; omega⟩
    ·exact ⟨fun e=>notcell r2 hl (e ▸ h),fun hfi=>ho1 b h hfi⟩
   refine ⟨_,run_beginRound hl2 (by rw[hrec]),?_⟩
   obtain ⟨W3,hW3⟩:∃ W3,W2.putObj (w.heap.size+1) (.loop { rec .ready none with state:=.busy })=W3:=⟨_,rfl⟩
   rw[hW3]
   have hsame3:∀ b,b≠w.heap.size+1→W3.heap[b]?=W2.heap[b]?:=fun b hb=>by rw[←hW3,zbD,if_neg (Ne.symm hb)]
   have hl3:W3.heap[w.heap.size+1]?=some (.loop { rec .ready none with state:=.busy }):=by rw[←hW3]; exact World.putObj_heap_same (Array.getElem?_eq_some_iff.1 hl2).1
   have hs3:W3.heap.size=W2.heap.size:=by rw[←hW3]; simp
   have hW0:k.w0.heap.size≤w.heap.size:=R.rl.size
   have j3:RlF k β2 S2 st1.e (lk st1.L) { a2 with defers:=zfa w.heap.size :: a.defers } W3:=j2.turn (fun b hb=>hsame3 b (no2 b hb).1) (fun b hb=>hsame3 b (fun e=>notcell j2 hl2 (e ▸ hb))) (by omega) (fun b hb _=>hsame3 b (by omega)) (by rw[←hW3]; rfl) (by rw[←hW3]; rfl) (by rw[←hW3]; rfl)
   have r4:=j3.enter m
   have hd2:a2.defers=[]:=q2.rl.nd rfl
   rw[show a2=({ a2 with defers:=[] }:Act)from by cases a2; simp at hd2; simp[hd2]]
   refine znT (C:={ C with np:=m }) hC' hm (k:=subK k β2 S2 (lk st1.L) { a2 with defers:=zfa w.heap.size :: a.defers } W3 m) hk ⟨hn.1,rfl⟩ bd cur pb (fun ⟨_,_,h⟩=>h) h2 (fun ex st2 h3 β3 S3 a3 W4 q3=>?_) r4
   have j4:=j3.join hkm q3
   have c3:=q3.sub_ch
   have hl3W:w.heap.size+1 < W3.heap.size:=(Array.getElem?_eq_some_iff.1 hl3).1
   have hl4:W4.heap[w.heap.size+1]?=some (.loop { rec .ready none with state:=.busy }):=(c3.keep _ hl3W (notcell j3 hl3)).trans hl3
   have fiW3:∀ b,Fi b→b < W3.heap.size:=fun b hb=>by have:=(fi b hb).2.1; omega
   have own3:∀ b,Own β3 (lk st2.L) b→¬ Fi b:=fun b ⟨n,blk,e1,e2⟩ hfi=>by
    rcases (q3.rl.mem.own n blk e1 b e2).2.2 with h | h
    ·have h:W3.heap.size≤b:=h
     have:=fiW3 b hfi
     omega
    ·exact own2 b h hfi
   have no3:∀ b,S3 b→b≠w.heap.size+1∧¬ Fi b:=fun b hb=>by
    rcases q3.rl.sg b hb with h | h | h
    ·exact no2 b h
    ·have h:W3.heap.size≤b:=h
     exact ⟨by omega,fun hfi=>by have:=fiW3 b hfi; omega⟩
    ·exact ⟨fun e=>notcell j3 hl3 (e ▸ h),fun hfi=>own2 b h hfi⟩
   have low3:∀ t,t < m→a3.tmps.getD t undef=a.tmps.getD t undef:=fun t ht=>(q3.rl.par t ht).trans ((q2.rl.par t ht).trans (hlow t ht))
   have s14:∀ b,S b→W4.heap[b]?=W.heap[b]?:=fun b hb=>by
    have e1:=hS1 b hb
    have e2:=q2.rl.s0 b e1
    have b1:=r1.rl.mem.bound b e1
    have b3:=j3.rl.mem.bound b e2
    have n1:¬ Own β1 (lk s.L) b:=fun ⟨n,blk,q1,q4⟩=>(r1.rl.mem.own n blk q1 b q4).1 e1
    have n3:¬ Own β2 (lk st1.L) b:=fun ⟨n,blk,q1,q4⟩=>(j3.rl.mem.own n blk q1 b q4).1 e2
    exact (c3.keep b b3 n3).trans ((hsame3 b (no2 b e2).1).trans (c2.keep b b1 n1))
   have f14:∀ b,Fi b→W4.heap[b]?=W.heap[b]?:=fun b hb=>by
    have b0:=(fi b hb).2.1
    exact (c3.keep b (fiW3 b hb) (fun h=>own2 b h hb)).trans ((hsame3 b (by omega)).trans (c2.keep b (fiW b hb) (fun h=>ho1 b h hb)))
   have fin:∀ (jump:Option Code),(Instr.endRound (w.heap.size+1) jump).run C.P W4=.ok (.bool jump.isNone) (W4.putObj (w.heap.size+1) (.loop (rec (if jump.isNone then .ready else .done) jump))):=fun jump=>by
    have:=run_endRound (P:=C.P) jump hl4
    rw[hrec]at this ⊢
    exact this
   have hsame5:∀ (o:Obj) b,b≠w.heap.size+1→(W4.putObj (w.heap.size+1) o).heap[b]?=W4.heap[b]?:=fun o b hb=>by rw[zbD,if_neg (Ne.symm hb)]
   have hsz4:W.heap.size≤W4.heap.size:=by have:=c2.size; have:=c3.size; omega
   have turn5:∀ {β:Nat→Value} {S:Nat→Prop} {e:Nat→A} {L:Nat→Option Blk} {a:Act} (o:Obj) (r:RlF k β S e L a W4),(∀ b,S b→b≠w.heap.size+1)→RlF k β S e L a (W4.putObj (w.heap.size+1) o):=fun o r hS =>
    r.turn (fun b hb=>hsame5 o b (hS b hb)) (fun b hb=>hsame5 o b (fun e=>notcell r hl4 (e ▸ hb))) (by simp) (fun b hb _=>hsame5 o b (by omega)) rfl rfl rfl
   have leave:∀ (ex:Ex) (c:Code),ex.code=some c→K ex (cut m st2)→∃ v w',(Instr.endRound (w.heap.size+1) (some c)).run C.P W4=.ok v w'∧((Ending.returned v=.returned (.bool true)∧(fun i W=>∃ (s:St) (β':Nat→Value) (S':Nat→Prop),rngP f (xs.drop i) s K∧RlF k β' S' s.e (lk s.L) { a with defers:=zfa w.heap.size :: a.defers } W∧(∀ b,S b→S' b)∧(∀ b,S' b→b≠w.heap.size+1∧¬ Fi b)∧(∀ b,Own β' (lk s.L) b→¬ Fi b)∧W.heap[w.heap.size+1]?=some (.loop (rec .ready none))∧W1.heap.size≤W.heap.size∧∀ t,m≤t→s.e t=.bad) (i+1) w'∧Ch (fun b=>¬ (S b∨zGw β ns b)) W w') ∨
     (Ending.returned v=.returned (.bool false)∧∃ (ex:Ex) (c:Code) (s:St) (β':Nat→Value) (S':Nat→Prop),K ex s∧ex.code=some c∧RlF k β' S' s.e (lk s.L) { a with defers:=zfa w.heap.size :: a.defers } w'∧(∀ b,S' b→b≠w.heap.size+1∧¬ Fi b)∧(∀ b,Own β' (lk s.L) b→¬ Fi b)∧w'.heap[w.heap.size+1]?=some (.loop (rec .done (some c)))∧W1.heap.size≤w'.heap.size)):=fun ex c hc hK=>by
    refine ⟨_,_,fin (some c),.inr ⟨rfl,ex,c,cut m st2,β3,S3,hK,hc,?_,no3,own3,World.putObj_heap_same (Array.getElem?_eq_some_iff.1 hl4).1,by simp; omega⟩⟩
    refine turn5 _ ?_ (fun b hb=>(no3 b hb).1)
    refine j4.cutTo (m:=m) (e':=(cut m st2).e) (fun t ht=>(low3 t ht).symm) hkm hnt rfl (fun t=>?_) (fun t ht=>by rw[zJs,if_neg (by omega)])
    rw[zJs]
    by_cases h:t < m
    ·rw[if_pos h]; exact .inl rfl
    ·rw[if_neg h]; exact .inr rfl
   cases ex with
   | exit id=>exact leave (.exit id) _ rfl h3
   | ret=>exact leave .ret _ rfl h3
   | normal =>
    obtain ⟨s3,h4,h5⟩:=zaB.1 h3
    obtain ⟨β4,q4,inv4⟩:=zkz h4 j4
    have own4:∀ b,Own β4 (lk s3.L) b→Own β3 (lk st2.L) b:=fun b ⟨n',b',e1,e2⟩=>by
     obtain ⟨n,b0,_,g2,g3⟩:=inv4 n' b' e1
     rw[g3]at e2
     exact ⟨n,b0,g2,e2⟩
    have hb3:∀ t,m≤t→s3.e t=.bad:=fun t ht=>zzK h4 (fun hm=>by have:=hlive t hm; omega)
    refine ⟨_,_,fin none,.inl ⟨rfl,⟨s3,β4,S3,h5,?_,fun b hb=>q3.rl.s0 b (q2.rl.s0 b (hS1 b hb)),no3,fun b hb=>own3 b (own4 b hb),World.putObj_heap_same (Array.getElem?_eq_some_iff.1 hl4).1,by simp; omega,hb3⟩,?_⟩⟩
    ·refine turn5 _ ?_ (fun b hb=>(no3 b hb).1)
     exact q4.cutTo (m:=m) (e':=s3.e) (fun t ht=>(low3 t ht).symm) hkm hnt rfl (fun t=>.inl rfl) hb3
    ·refine ⟨by simp; omega,fun b hb hnb=>?_,?_,?_,?_⟩
     ·have hnb:S b∨Fi b:=Classical.not_not.1 hnb
      rw[hsame5 _ b (hnb.elim (fun h=>(hn1 b (hS1 b h)).1) fun h=>by have:=(fi b h).2.1; omega)]
      exact hnb.elim (s14 b) (f14 b)
     ·exact c3.os.trans ((by rw[←hW3]; rfl:W3.os=W2.os).trans c2.os)
     ·exact c3.tape.trans ((by rw[←hW3]; rfl:W3.tape=W2.tape).trans c2.tape)
     ·exact c3.output.trans ((by rw[←hW3]; rfl:W3.output=W2.output).trans c2.output)
  ·exact ⟨s0,β0,_,h,RJ,fun b hb=>.inl hb,fun b hb=>hb.elim (fun hb=>⟨by have:=R.rl.mem.bound b hb; omega,fun hfi=>(fi b hfi).1 hb⟩) (fun e=>⟨by omega,fun hfi=>by have:=(fi b hfi).2.1; omega⟩),fiO,hL1,Nat.le_refl _,fun t ht=>zzK hcan (fun hm=>by have:=hlive t hm; omega)⟩
  ·rintro e W' ⟨⟨v,rfl⟩,⟨s,β1,S1,h1,r1,hS1,hn1,ho1,hl,hge1,hbig⟩ | ⟨ex,c,s,β1,S1,hK,hc,r1,hn1,ho1,hl,hge1⟩⟩
   ·rw[List.drop_length]at h1
    have h1:K .normal s:=h1
    refine ⟨none,_,by have:=run_endLoop (P:=C.P) hl (by rw[hrec]; simp); rw[hrec]at this; exact this,?_⟩
    refine hQ _ _ h1 β1 S1 _ _ ?_
    have hW0:k.w0.heap.size≤w.heap.size:=R.rl.size
    refine r1.turn (fun b hb=>?_) (fun b hb=>?_) (by simp) (fun b hb _=>?_) rfl rfl rfl
    ·rw[zbD,if_neg (Ne.symm (hn1 b hb).1)]
    ·rw[zbD,if_neg (fun e=>by subst e; exact notcell r1 hl hb)]
    ·rw[zbD,if_neg (by omega)]
   ·refine ⟨some c,_,by have:=run_endLoop (P:=C.P) hl (by rw[hrec]; simp); rw[hrec]at this; exact this,?_⟩
    have hW0:k.w0.heap.size≤w.heap.size:=R.rl.size
    have r5:=r1.turn (w':=W'.putObj (w.heap.size+1) (.loop { rec .done (some c)with state:=.exhausted })) (fun b hb=>by rw[zbD,if_neg (Ne.symm (hn1 b hb).1)]) (fun b hb=>by rw[zbD,if_neg (fun e=>by subst e; exact notcell r1 hl hb)]) (by simp) (fun b hb _=>by rw[zbD,if_neg (by omega)]) rfl rfl rfl
    have hq:=hQ _ _ hK β1 S1 _ _ r5
    cases ex with
    | normal=>cases hc
    | exit id=>cases hc; rw[hrec]at hq; exact wpIn_exit hq
    | ret=>cases hc; rw[hrec]at hq; exact wpIn_ret hq
end Go.Proofs.YtnolgfdjcipmmaaDoor.M
namespace Go.Proofs.YtnolgfdjcipmmaaDoor.M
open Go
theorem zC2 {C:CfgW} (hC:CfgOK C.cfg) (hI:ItsOK C.P C.G C.it) (hm:C.P.follows .mixedOrders=true) {k:Wk} (hk:k.G=C.G) (hn:k.nt=C.nt∧k.np=C.np) (hnd:k.nd=false) {lv:Nat→List Nat}:∀ (c:Code) (cur:Nat) {st:St} {K:Ex→St→Prop} {Q:Exit→Act→World→Prop},
  zcY C lv cur c st K→(∀ ex st',K ex st'→∀ β S a w,RlF k β S st'.e (lk st'.L) a w→Q ex.to a w)→∀ {β:Nat→Value} {S:Nat→Prop} {a:Act} {w:World},RlF k β S st.e (lk st.L) a w→c.wp C.P Q a w:=by
 intro c
 induction c with
 | skip =>
  intro cur st K Q h hQ β S a w R
  exact wp_skip (hQ _ _ h β S a w R)
 | region id ops draw =>
  intro cur st K Q h hQ β S a w R
  obtain ⟨st0,h,⟨hse,hsl⟩,_⟩:=znl h
  rw[←hse,←hsl]at R
  obtain ⟨st1,h0,h1⟩:=zaB.1 h
  obtain ⟨S1,R1⟩:=zlF h0 R
  exact zxY hC hm hk hn h1 (fun st' h=>hQ _ _ h) R1
 | seq x y ihx ihy =>
  intro cur st K Q h hQ β S a w R
  refine wp_seq (ihx cur h (fun ex st' h' β' S' a' w' R'=>?_) R)
  cases ex with
  | normal=>exact ihy cur h' hQ R'
  | exit id=>exact hQ _ _ h' β' S' a' w' R'
  | ret=>exact hQ _ _ h' β' S' a' w' R'
 | cond c x y ihx ihy =>
  intro cur st K Q h hQ β S a w R
  simp only[zcY]at h
  split at h
  ·rename_i t ht
   have hv:=R.eval (C:=C.cfg) hk c
   have hv:RepA β S w.heap (lk st.L) (ziF C.G st.e c) (a.eval c):=hv
   rw[ht]at hv
   refine wp_cond (t:=t) hv.sc_inv ?_
   cases t with
   | true=>exact ihx cur h hQ R
   | false=>exact ihy cur h hQ R
  ·exact h.elim
 | block id body ih =>
  intro cur st K Q h hQ β S a w R
  refine wp_block (ih id h (fun ex st' h' β' S' a' w' R'=>?_) R)
  cases ex with
  | normal=>exact hQ _ _ h' β' S' a' w' R'
  | ret=>exact hQ _ _ h' β' S' a' w' R'
  | exit j =>
   simp only[Ex.to,Exit.inBlock]
   simp only[Ex.blk]at h'
   by_cases hj:j=id
   ·subst hj
    simp only[Nat.beq_refl,cond_true]at h'
    rw[if_pos rfl]
    exact hQ _ _ h' β' S' a' w' R'
   ·rw[ziG hj]at h'
    simp only[cond_false]at h'
    rw[if_neg hj]
    exact hQ _ _ h' β' S' a' w' R'
 | loop body ih =>
  intro cur st K Q h hQ β S a w R
  simp only[zcY]at h
  split at h
  ·rename_i m live _
   obtain ⟨s0,h1,h5⟩:=zaB.1 h
   refine wp_loop_rounds m ?_
   have gen:∀ (m:Nat) {s:St} {β:Nat→Value} {S:Nat→Prop} {a:Act} {w:World},zzz (fun s k=>zcY C lv cur body s (Ex.go k fun s1=>optP (zvD live s1) (k .normal))) m s K→RlF k β S s.e (lk s.L) a w→Code.rounds C.P body Q m a w:=by
    intro m
    induction m with
    | zero=>intro s β S a w h _; exact h.elim
    | succ m ihm =>
     intro s β S a w h R
     rw[rounds_succ]
     refine ih cur h (fun ex st' h' β' S' a' w' R'=>?_) R
     cases ex with
     | normal =>
      obtain ⟨s2,h3,h4⟩:=zaB.1 h'
      rcases zhE h3 with rfl | h3
      ·exact ihm h4 R'
      ·obtain ⟨β2,R2⟩:=zdG h3 R'
       exact ihm h4 R2
     | exit id=>exact hQ _ _ h' β' S' a' w' R'
     | ret=>exact hQ _ _ h' β' S' a' w' R'
   rcases zhE h1 with rfl | h1
   ·exact gen m h5 R
   ·obtain ⟨β0,R0⟩:=zdG h1 R
    exact gen m h5 R0
  obtain ⟨s,h1,⟨n,h2⟩⟩:=zaB.1 h
  refine wp_loop_rounds n ?_
  have gen:∀ (m:Nat) {s:St} {β:Nat→Value} {S:Nat→Prop} {a:Act} {w:World},zzz (fun s k=>zcY C lv cur body s (Ex.go k fun s1=>zgY (lv cur) s1 (k .normal))) m s K→RlF k β S s.e (lk s.L) a w→Code.rounds C.P body Q m a w:=by
   intro m
   induction m with
   | zero=>intro s β S a w h _; exact h.elim
   | succ m ihm =>
    intro s β S a w h R
    rw[rounds_succ]
    refine ih cur h (fun ex st' h' β' S' a' w' R'=>?_) R
    cases ex with
    | normal =>
     obtain ⟨s2,h3,h4⟩:=zaB.1 h'
     obtain ⟨β2,R2⟩:=zdG h3 R'
     exact ihm h4 R2
    | exit id=>exact hQ _ _ h' β' S' a' w' R'
    | ret=>exact hQ _ _ h' β' S' a' w' R'
  obtain ⟨β0,R0⟩:=zdG h1 R
  exact gen n h2 R0
 | exit id =>
  intro cur st K Q h hQ β S a w R
  exact wp_exit (hQ _ _ h β S a w R)
 | ret =>
  intro cur st K Q h hQ β S a w R
  obtain ⟨st1,h0,h1⟩:=zaB.1 h
  obtain ⟨S1,R1⟩:=zlF h0 R
  exact wp_ret (hQ _ _ h1 β S1 a w R1)
 | scope c ih =>
  intro cur st K Q h hQ β S a w R
  refine wp_scope_straight (ih cur h (fun ex st' h' β' S' a' w' R'=>?_) R)
  have:=hQ ex st' h' β' S' a' w' R'
  cases ex<;>exact this
 | label l =>
  intro cur st K Q h hQ β S a w R
  exact wp_label (hQ _ _ h β S a w R)
 | rangeFunc g ps a b _ _ =>
  intro cur st K Q h hQ β S a w R
  exact zGr hC hI hm hk hn hnd h hQ R
 | _ =>
  intro cur st K Q h
  exact h.elim
def Det2 (f:(Ex→St→Prop)→Prop):Prop:=∀ K,f K→∃ e s,K e s∧∀ K':Ex→St→Prop,K' e s→f K'
theorem ztF {f:St→(Ex→St→Prop)→Prop} (hf:∀ s,Det2 (f s)):∀ (n:Nat) (s:St),Det2 (zzz f n s)
 | 0,s=>fun K h=>h.elim
 | n+1,s=>fun K h=>by
  obtain ⟨e,s1,h1,h2⟩:=hf s _ h
  cases e with
  | normal =>
   obtain ⟨e2,s2,h3,h4⟩:=ztF hf n s1 K h1
   exact ⟨e2,s2,h3,fun K' hK=>h2 _ (h4 K' hK)⟩
  | exit i=>exact ⟨_,s1,h1,fun K' hK=>h2 _ hK⟩
  | ret=>exact ⟨_,s1,h1,fun K' hK=>h2 _ hK⟩
theorem zDT {f:List PV→St→(Ex→St→Prop)→Prop} (hf:∀ x s,Det2 (f x s)):∀ (xs:List (List PV)) (s:St),Det2 (rngP f xs s)
 | [],s=>fun K h=>⟨_,_,h,fun _ hK=>hK⟩
 | x :: xs,s=>fun K h=>by
  obtain ⟨e,s1,h1,h2⟩:=hf x s _ h
  cases e with
  | normal =>
   obtain ⟨e2,s2,h3,h4⟩:=zDT hf xs s1 K h1
   exact ⟨e2,s2,h3,fun K' hK=>h2 _ (h4 K' hK)⟩
  | exit i=>exact ⟨_,s1,h1,fun K' hK=>h2 _ hK⟩
  | ret=>exact ⟨_,s1,h1,fun K' hK=>h2 _ hK⟩
theorem zFX {lv:Nat→List Nat}:∀ (c:Code) {C:CfgW} (cur:Nat) (st:St),Det2 (zcY C lv cur c st):=by
 intro c
 induction c with
 | skip=>intro C cur st K h; exact ⟨_,_,h,fun _ hK=>hK⟩
 | region id ops draw =>
  intro C cur st K h
  obtain ⟨st0,h,_,hb⟩:=znl h
  obtain ⟨st1,h0,h⟩:=zaB.1 h
  obtain ⟨s,h1,h2⟩:=zBb _ h
  exact ⟨_,s,h1,fun K' hK=>hb _ (zaB.2 ⟨st1,h0,h2 _ hK⟩)⟩
 | seq x y ihx ihy =>
  intro C cur st K h
  obtain ⟨e,s,h1,h2⟩:=ihx cur st _ h
  cases e with
  | normal =>
   obtain ⟨e2,s2,h3,h4⟩:=ihy cur s _ h1
   exact ⟨e2,s2,h3,fun K' hK=>h2 _ (h4 K' hK)⟩
  | exit i=>exact ⟨_,s,h1,fun K' hK=>h2 _ hK⟩
  | ret=>exact ⟨_,s,h1,fun K' hK=>h2 _ hK⟩
 | cond c x y ihx ihy =>
  intro C cur st K h
  simp only[zcY]at h ⊢
  split at h
  ·rename_i t ht
   cases t with
   | true=>exact ihx cur st _ h
   | false=>exact ihy cur st _ h
  ·exact h.elim
 | block id body ih =>
  intro C cur st K h
  obtain ⟨e,s,h1,h2⟩:=ih id st _ h
  cases e with
  | normal=>exact ⟨_,s,h1,fun K' hK=>h2 _ hK⟩
  | ret=>exact ⟨_,s,h1,fun K' hK=>h2 _ hK⟩
  | exit j =>
   cases hj:Nat.beq j id with
   | true =>
    simp only[Ex.blk,hj,cond_true]at h1
    exact ⟨_,s,h1,fun K' hK=>h2 _ (by simp only[Ex.blk,hj,cond_true]; exact hK)⟩
   | false =>
    simp only[Ex.blk,hj,cond_false]at h1
    exact ⟨_,s,h1,fun K' hK=>h2 _ (by simp only[Ex.blk,hj,cond_false]; exact hK)⟩
 | loop body ih =>
  intro C cur st K h
  simp only[zcY]at h ⊢
  split at h
  ·rename_i m live _
   obtain ⟨s,h1,h2⟩:=zaB.1 h
   have hf:∀ s,Det2 ((fun s k=>zcY C lv cur body s (Ex.go k fun s1=>optP (zvD live s1) (k .normal))) s):=by
    intro s K h
    obtain ⟨e,s1,h1,h2⟩:=ih cur s _ h
    cases e with
    | normal =>
     obtain ⟨s2,h3,h4⟩:=zaB.1 h1
     exact ⟨_,s2,h4,fun K' hK=>h2 _ (zaB.2 ⟨s2,h3,hK⟩)⟩
    | exit i=>exact ⟨_,s1,h1,fun K' hK=>h2 _ hK⟩
    | ret=>exact ⟨_,s1,h1,fun K' hK=>h2 _ hK⟩
   obtain ⟨e,s1,h3,h4⟩:=ztF hf m s K h2
   exact ⟨e,s1,h3,fun K' hK=>zaB.2 ⟨s,h1,h4 K' hK⟩⟩
  obtain ⟨s,h1,⟨n,h2⟩⟩:=zaB.1 h
  have hf:∀ s,Det2 ((fun s k=>zcY C lv cur body s (Ex.go k fun s1=>zgY (lv cur) s1 (k .normal))) s):=by
   intro s K h
   obtain ⟨e,s1,h1,h2⟩:=ih cur s _ h
   cases e with
   | normal =>
    obtain ⟨s2,h3,h4⟩:=zaB.1 h1
    exact ⟨_,s2,h4,fun K' hK=>h2 _ (zaB.2 ⟨s2,h3,hK⟩)⟩
   | exit i=>exact ⟨_,s1,h1,fun K' hK=>h2 _ hK⟩
   | ret=>exact ⟨_,s1,h1,fun K' hK=>h2 _ hK⟩
  obtain ⟨e,s1,h3,h4⟩:=ztF hf n s K h2
  exact ⟨e,s1,h3,fun K' hK=>zaB.2 ⟨s,h1,⟨n,h4 K' hK⟩⟩⟩
 | exit id=>intro C cur st K h; exact ⟨_,_,h,fun _ hK=>hK⟩
 | ret =>
  intro C cur st K h
  obtain ⟨s,h1,h2⟩:=zaB.1 h
  exact ⟨_,_,h2,fun K' hK=>zaB.2 ⟨s,h1,hK⟩⟩
 | scope c ih=>intro C cur st K h; exact ih cur st K h
 | label l=>intro C cur st K h; exact ⟨_,_,h,fun _ hK=>hK⟩
 | rangeFunc g ps a b iha ihb =>
  intro C cur st K h
  simp only[zcY,zyi]at h ⊢
  generalize (lv (3000000+cur)).headD 0=m at h ⊢
  generalize (lv (3000000+cur)).drop 1=live at h ⊢
  generalize (zhp a && zhp b && Nat.ble C.np m && live.all (fun t=>Nat.blt t m) && ps.toList.all fun t=>Nat.ble m t && Nat.blt t C.nt)=q at h ⊢
  cases q with
  | false=>exact h.elim
  | true =>
  simp only[zaf]at h ⊢
  split at h
  case h_2=>exact h.elim
  rename_i gf caps hgf
  obtain ⟨⟨ns,xs⟩,hit,h⟩:=zaB.1 h
  simp only at h
  cases hdis:(ns.all fun n=>(lk st.L n).isSome && !memN n (zf0 live st)) with
  | false=>rw[hdis]at h; exact h.elim
  | true =>
  rw[hdis]at h
  obtain ⟨s0,hcan,⟨h⟩⟩:=zaB.1 h
  have hf:∀ (x:List PV) (s:St),Det2 fun(k:Ex→St→Prop)=>zaf (Nat.beq x.length ps.size) (zcY { C with np:=m } lv cur a (zDt ps.toList x s) (Ex.one fun s1 =>
    zcY { C with np:=m } lv cur b s1 (Ex.go (fun e s=>k e (cut m s)) fun s2=>zgY live s2 fun s3=>k .normal s3))) False:=by
   intro x s K h
   cases hl:Nat.beq x.length ps.size with
   | false=>rw[hl]at h; exact h.elim
   | true =>
   rw[hl]at h
   simp only[zaf]at h ⊢
   obtain ⟨e,s1,h1,h2⟩:=iha (C:={ C with np:=m }) cur _ _ h
   cases e with
   | exit i=>exact h1.elim
   | ret=>exact h1.elim
   | normal =>
   obtain ⟨e,s2,h3,h4⟩:=ihb (C:={ C with np:=m }) cur s1 _ h1
   cases e with
   | exit i=>exact ⟨.exit i,_,h3,fun K' hK=>h2 _ (h4 _ hK)⟩
   | ret=>exact ⟨.ret,_,h3,fun K' hK=>h2 _ (h4 _ hK)⟩
   | normal =>
    obtain ⟨s3,h5,h6⟩:=zaB.1 h3
    exact ⟨.normal,s3,h6,fun K' hK=>h2 _ (h4 _ (zaB.2 ⟨s3,h5,hK⟩))⟩
  obtain ⟨e,s,h1,h2⟩:=zDT hf xs s0 K h
  exact ⟨e,s,h1,fun K' hK=>zaB.2 ⟨_,hit,by simp only[hdis]; exact zaB.2 ⟨s0,hcan,⟨h2 K' hK⟩⟩⟩⟩
 | _=>intro C cur st K h; exact h.elim
def zJx (C:CfgW) (lv:Nat→List Nat) (cur:Nat) (body:Code) (s:St) (k:Ex→St→Prop):Prop:=zcY C lv cur body s (Ex.go k fun s1=>zgY (lv cur) s1 (k .normal))
theorem zER {C:CfgW} {lv:Nat→List Nat} {cur:Nat} {body:Code} (s:St):Det2 (zJx C lv cur body s):=by
 intro K h
 obtain ⟨e,s1,h1,h2⟩:=zFX body cur s _ h
 cases e with
 | normal =>
  obtain ⟨s2,h3,h4⟩:=zaB.1 h1
  exact ⟨_,s2,h4,fun K' hK=>h2 _ (zaB.2 ⟨s2,h3,hK⟩)⟩
 | exit i=>exact ⟨_,s1,h1,fun K' hK=>h2 _ hK⟩
 | ret=>exact ⟨_,s1,h1,fun K' hK=>h2 _ hK⟩
theorem Loop.step {tag:Nat} {f:St→(Ex→St→Prop)→Prop} (hf:∀ s,Det2 (f s)) {st:St} {K:Ex→St→Prop} (h:f st (Ex.go K fun s=>Loop tag f s K)):Loop tag f st K:=by
 obtain ⟨e,s,h1,h2⟩:=hf st _ h
 cases e with
 | normal =>
  obtain ⟨n,h1⟩:=h1.ex
  exact ⟨n+1,h2 _ h1⟩
 | exit i=>exact ⟨1,h2 _ h1⟩
 | ret=>exact ⟨1,h2 _ h1⟩
def zme:List Bool→Code→Code
 | [],c=>c
 | b :: p,.seq x y=>bif b then zme p y else zme p x
 | b :: p,.cond _ x y=>bif b then zme p y else zme p x
 | _ :: p,.block _ x=>zme p x
 | _ :: p,.loop x=>zme p x
 | _ :: p,.scope x=>zme p x
 | _,_=>.skip
def zqZ:List Bool→Nat→Code→Nat
 | [],cur,_=>cur
 | b :: p,cur,.seq x y=>bif b then zqZ p cur y else zqZ p cur x
 | b :: p,cur,.cond _ x y=>bif b then zqZ p cur y else zqZ p cur x
 | _ :: p,_,.block id x=>zqZ p id x
 | _ :: p,cur,.loop x=>zqZ p cur x
 | _ :: p,cur,.scope x=>zqZ p cur x
 | _,cur,_=>cur
def zoI (C:CfgW) (lv:Nat→List Nat):List Bool→Nat→Code→(Ex→St→Prop)→Ex→St→Prop
 | [],_,_,K=>K
 | b :: p,cur,.seq x y,K=>bif b then zoI C lv p cur y K else zoI C lv p cur x (Ex.go K fun s=>zcY C lv cur y s K)
 | b :: p,cur,.cond _ x y,K=>bif b then zoI C lv p cur y K else zoI C lv p cur x K
 | _ :: p,_,.block id x,K=>zoI C lv p id x (Ex.blk id K)
 | _ :: p,cur,.scope x,K=>zoI C lv p cur x K
 | _ :: p,cur,.loop x,K=>zoI C lv p cur x (Ex.go (Ex.go K fun s=>Loop cur (fun s k=>zcY C lv cur x s (Ex.go k fun s1=>zgY (lv cur) s1 (k .normal))) s K) fun s1=>zgY (lv cur) s1 fun s=>Loop cur (fun s k=>zcY C lv cur x s (Ex.go k fun s1=>zgY (lv cur) s1 (k .normal))) s K)
 | _,_,_,K=>K
@[irreducible] def zah (C:CfgW) (lv:Nat→List Nat) (p:List Bool) (body:Code) (st:St) (K:Ex→St→Prop):Prop :=
 match zme p body with
 | .loop x=>Loop (zqZ p 0 body) (fun s k=>zcY C lv (zqZ p 0 body) x s (Ex.go k fun s1=>zgY (lv (zqZ p 0 body)) s1 (k .normal))) st (zoI C lv p 0 body K)
 | _=>False
@[irreducible] def zas (C:CfgW) (lv:Nat→List Nat) (p:List Bool) (body:Code) (st:St) (K:Ex→St→Prop):Prop :=
 match zme p body with
 | .loop x=>zcY C lv (zqZ p 0 body) x st (Ex.go (Ex.go (zoI C lv p 0 body K) fun s=>zah C lv p body s K) fun s1=>zgY (lv (zqZ p 0 body)) s1 fun s=>zah C lv p body s K)
 | _=>False
theorem zal {C:CfgW} {lv:Nat→List Nat} {p:List Bool} {body:Code} {st:St} {K:Ex→St→Prop} (h:zas C lv p body st K):zah C lv p body st K:=by
 unfold zas at h
 unfold zah at h ⊢
 generalize zme p body=c at h ⊢
 cases c with
 | loop x=>exact Loop.step (fun s=>zER s) h
 | _=>exact h.elim
def Blk.flatC:Blk→Option Cn
 | .box c=>bif c.flat then some none else none
 | .row (.s _ _) _=>some none
 | .row (.p _ xs) _=>some (some (PV.flats xs=true))
 | .map kv=>some (some ((PV.flats (kv.map (·.1)) && PV.flats (kv.map (·.2)))=true))
def zl5:List (Nat × Blk)→Option Cn
 | []=>some none
 | p :: r=>match p.2.flatC with
  | none=>none
  | some none=>zl5 r
  | some (some q)=>match zl5 r with
   | some c=>some (c.and q)
   | none=>none
theorem Blk.flatC_some {b:Blk} {c:Cn} (h:b.flatC=some c) (hc:c.h):b.flat=true:=by
 cases b with
 | box x =>
  simp only[Blk.flatC]at h
  cases hx:x.flat with
  | true=>exact hx
  | false=>rw[hx]at h; cases h
 | row rc ex =>
  cases rc with
  | s k xs=>rfl
  | p sz xs=>simp only[Blk.flatC,Option.some.injEq]at h; subst h; exact hc
 | map kv=>simp only[Blk.flatC,Option.some.injEq]at h; subst h; exact hc
theorem Blk.flatC_none {b:Blk} (h:b.flatC=none):b.flat=false:=by
 cases b with
 | box x =>
  simp only[Blk.flatC]at h
  cases hx:x.flat with
  | true=>rw[hx]at h; cases h
  | false=>exact hx
 | row rc ex=>cases rc<;>simp[Blk.flatC]at h
 | map kv=>simp[Blk.flatC]at h
theorem zmA:∀ {l:List (Nat × Blk)} {c:Cn},zl5 l=some c→c.h→(l.all fun p=>p.2.flat)=true
 | [],c,h,hc=>rfl
 | p :: r,c,h,hc=>by
  simp only[zl5]at h
  rw[List.all_cons,Bool.and_eq_true]
  cases hp:p.2.flatC with
  | none=>rw[hp]at h; cases h
  | some q =>
   rw[hp]at h
   cases q with
   | none=>exact ⟨Blk.flatC_some hp trivial,zmA h hc⟩
   | some q =>
    simp only at h
    cases hr:zl5 r with
    | none=>rw[hr]at h; cases h
    | some c' =>
     rw[hr]at h
     cases h
     have:=Cn.and_h hc
     exact ⟨Blk.flatC_some hp this.2,zmA hr this.1⟩
theorem znt:∀ {l:List (Nat × Blk)},zl5 l=none→(l.all fun p=>p.2.flat)=false
 | [],h=>by cases h
 | p :: r,h=>by
  simp only[zl5]at h
  rw[List.all_cons,Bool.and_eq_false_iff]
  cases hp:p.2.flatC with
  | none=>exact .inl (Blk.flatC_none hp)
  | some q =>
   rw[hp]at h
   cases q with
   | none=>exact .inr (znt h)
   | some q =>
    simp only at h
    cases hr:zl5 r with
    | none=>exact .inr (znt hr)
    | some c'=>rw[hr]at h; cases h
def zI5 (b:Bool) (l:List (Nat × Blk)) (K:Bool→Prop):Prop :=
 match b with
 | false=>K false
 | true=>match zl5 l with
  | none=>K false
  | some c=>c.K (K true)
theorem zBc {v:Bool} {l:List (Nat × Blk)} {K:Bool→Prop} (h:zI5 v l K):K (v && l.all fun p=>p.2.flat):=by
 unfold zI5 at h
 cases v with
 | false=>exact h
 | true =>
  simp only[Bool.true_and]at h ⊢
  cases hl:zl5 l with
  | none=>rw[hl]at h; rw[znt hl]; exact h
  | some c =>
   rw[hl]at h
   obtain ⟨h1,h2⟩:=Cn.K_h h
   rw[zmA hl h1]; exact h2
def outP (C:CfgW) (rs:List ResultVar) (hs:List Nat) (st:St) (Q:CallOut→Prop):Prop :=
 optP (zEv C.cfg st rs) fun xs=>zaf (zHD hs st (one xs)) (zI5 (!C.nf && zIa hs st (one xs)) (zFZ hs st (one xs)) fun f=>Q (zEb hs st (one xs) f)) False
theorem zv2 {C:CfgW} {rs:List ResultVar} {hs:List Nat} {st:St} {Q:CallOut→Prop} (h:outP C rs hs st Q):∃ out,zGY C.cfg rs hs st=some out∧Q out:=by
 obtain ⟨xs,h1,h2⟩:=zaB.1 h
 unfold zGY
 rw[h1,Option.bind_some]
 cases hc:zHD hs st (one xs) with
 | false=>rw[hc]at h2; exact h2.elim
 | true =>
  rw[hc]at h2
  simp only[zaf]at h2
  exact ⟨_,if_pos rfl,zBc h2⟩
def fnK (C:CfgW) (rs:List ResultVar) (hs:List Nat) (Q:CallOut→Prop) (e:Ex) (s:St):Prop :=
 match e with
 | .exit _=>False
 | .normal=>outP C rs hs s Q
 | .ret=>outP C rs hs s Q
@[irreducible] def zac (C:CfgW) (lv:Nat→List Nat) (rs:List ResultVar) (hs:List Nat) (body:Code) (args:List A) (mem:List (Nat × Blk)) (Q:CallOut→Prop):Prop :=
 zaf (Nat.ble args.length C.nt && Nat.ble C.np args.length && hs.all fun i=>Nat.blt i C.np) (zcY C lv 0 body { E:=zxz args 0,L:=mem } (fnK C rs hs Q)) False
end Go.Proofs.YtnolgfdjcipmmaaDoor.M
namespace Go.Proofs.YtnolgfdjcipmmaaDoor.M
open Go
theorem FnOK.of_P {C:CfgW} (hC:CfgOK C.cfg) (hI:ItsOK C.P C.G C.it) (hm:C.P.follows .mixedOrders=true) {f:FuncId} {fn:Func} {body:Code} (hf:C.P.funcs[f]?=some fn) (hb:fn.body=some body) (hn:fn.ntmps=C.nt)
  {spec:List A→List (Nat × Blk)→Option CallOut} {lv:Nat→List Nat} {hs:List Nat} (h:∀ args mem out,spec args mem=some out→zac C lv fn.results.toList hs body args mem (·=out)):FnOK C.P C.G f spec:=by
 intro w β S F args mem vals out ho hG M hargs
 have he:=h args mem out ho
 unfold zac at he
 cases hlen:(Nat.ble args.length C.nt && Nat.ble C.np args.length && hs.all fun i=>Nat.blt i C.np) with
 | false=>rw[hlen]at he; exact he.elim
 | true =>
  rw[hlen]at he
  have h1:zcY C lv 0 body { E:=zxz args 0,L:=mem } (fnK C fn.results.toList hs (·=out)):=he
  simp only[Bool.and_eq_true,List.all_eq_true]at hlen
  obtain ⟨⟨hlen,hnp⟩,hhs⟩:=hlen
  have hlen:=Nat.le_of_ble_eq_true hlen
  have hnp:=Nat.le_of_ble_eq_true hnp
  obtain ⟨hl,hat⟩:=hargs.at
  let k:Wk:={ w0:=w,F:=F,S0:=S,G:=C.G,nt:=C.nt,np:=C.np,par:=fun t=>vals.getD t undef }
  let a0:Act:={ tmps:=vals++Array.replicate (fn.ntmps - vals.size) undef,defers:=[] }
  have hvl:vals.size=args.length:=by rw[hl]; simp
  have R0:RlF k β S (St.e { E:=zxz args 0,L:=mem }) (lk mem) a0 w:=by
   refine ⟨⟨M,(fun t x hx=>by cases hx),hG,(fun b _ _=>rfl),Nat.le_refl _,(fun b h=>h),(fun b h=>Or.inl h),rfl,rfl,rfl,?_,.nil,(fun _=>rfl),fun t ht=>?_⟩,fun t=>?_,fun t ht=>?_⟩
   ·show (vals++Array.replicate (fn.ntmps - vals.size) undef).size=C.nt
    simp[hn]; omega
   ·show (vals++Array.replicate (fn.ntmps - vals.size) undef).getD t undef=vals.getD t undef
    have ht:t < C.np:=ht
    rw[Array.getD_eq_getD_getElem?,Array.getElem?_append_left (by omega),Array.getD_eq_getD_getElem?]
   ·show RepA β S w.heap (lk mem) ((lk (zxz args 0) t).getD .bad) _
    rw[zwV]
    simp only[Nat.zero_le,if_true,Nat.sub_zero]
    cases hx:args[t]? with
    | none=>exact RepA.bad _
    | some x =>
     obtain ⟨v,hv,hr⟩:=hat t x hx
     have:a0.tmps.getD t undef=v:=by
      have hlt:t < vals.size:=by
       have:=(List.getElem?_eq_some_iff.1 hv).1
       simpa using this
      show (vals++Array.replicate (fn.ntmps - vals.size) undef).getD t undef=v
      rw[Array.getD_eq_getD_getElem?,Array.getElem?_append_left hlt]
      rw[Array.getElem?_toList]at hv
      rw[hv]; rfl
     rw[this]; exact hr
   ·show (lk (zxz args 0) t).getD .bad=.bad
    rw[zwV]
    simp only[Nat.zero_le,if_true,Nat.sub_zero]
    have ht:C.nt≤t:=ht
    rw[List.getElem?_eq_none (by omega)]; rfl
  refine (callsIn_wide (n:=0)).1 (callsIn_of_wp_marks hf hb trivial (wpIn_wide.2 (zC2 hC hI hm (k:=k) rfl ⟨rfl,rfl⟩ rfl body 0 h1 (fun ex st' h2 β' S1 a1 w1 R1=>?_) R0)) rfl)
  have fin:∀ {S':Nat→Prop} {a':Act} {w':World} (R':RlF k β' S' st'.e (lk st'.L) a' w'),zGY C.cfg fn.results.toList hs st'=some out→∃ v,(results fn a'.tmps).run C.P w'=.ok v w'∧Post w F S vals out (.returned v) w':=by
   intro S' a' w' R'
   intro ho
   simp only[zGY,Option.bind_eq_some_iff]at ho
   obtain ⟨xs,hxs,ho⟩:=ho
   obtain ⟨vs,q1,q2⟩:=zzx (C:=C.cfg) R' hxs
   have hv:=zIO q2
   split at ho
   ·rename_i hc
    simp only[zHD,Bool.and_eq_true,List.all_cons,List.all_map,List.all_eq_true,Function.comp_apply]at hc
    obtain ⟨⟨hc1,hc3⟩,hc2⟩:=hc
    obtain ⟨β2,M1,tr1,_⟩:=zu0 (zqC hc2) R'.rl.mem
    have M2:=(zBl M1).1
    have tr:=fun x v h1 h2=>(zBl M1).2 _ _ (tr1 x v h1 h2)
    have hv2:=tr _ _ hc1 hv
    have hroot:∀ i ∈ hs,RepA β2 S' w'.heap (lk (zFZ hs st' (one xs))) ((st'.e i).ren (renF (zwf hs st' (one xs)))) (vals.getD i undef):=by
     intro i hi
     have h3:=tr _ _ (hc3 i hi) (R'.env i)
     have h4:=R'.rl.par i (Nat.le_of_ble_eq_true (hhs i hi))
     rw[h4]at h3
     exact h3
    have ho:=Option.some.inj ho
    refine ⟨(if hh:vs.toArray.size=1 then vs.toArray[0]else .tuple vs.toArray),?_,⟨⟨(if hh:vs.toArray.size=1 then vs.toArray[0]else .tuple vs.toArray),?_⟩,R'.rl.size,R'.rl.keep,R'.rl.os,R'.rl.tape,R'.rl.output⟩⟩
    ·unfold results
     rw[Array.mapM_eq_mapM_toList]
     simp only[Sem.run_bind,Functor.map]
     have e1:∀ (X:Sem (List Value)),X.run C.P w'=.ok vs w'→(X >>= (Sem.pure ∘ List.toArray)).run C.P w'=.ok vs.toArray w':=by
      intro X hX
      rw[Sem.run_bind,hX]; rfl
     have e2:=e1 _ q1
     refine (congrArg (fun r=>Result.andThen r _) e2).trans ?_
     rfl
    ·subst ho
     cases hfl:(!C.cfg.nf && zIa hs st' (one xs) && (zFZ hs st' (one xs)).all fun p=>p.2.flat) with
     | true =>
      simp only[zIa,Bool.and_eq_true,List.all_eq_true]at hfl
      have hfl:=And.intro hfl.1.2 hfl.2
      refine ⟨β2,(fun _=>False),rfl,(fun _ _ h=>h),(fun b hb=>hb.elim),(fun e=>absurd e (by simp[zEb])),M2.flat' (fun n b hb=>hfl.2 (n,b) (zcn hb)),hv2.flat' hfl.1.1,fun i x hx=>?_⟩
      simp only[zEb,List.mem_map,Prod.mk.injEq]at hx
      obtain ⟨j,hj,rfl,rfl⟩:=hx
      exact (hroot j hj).flat' (hfl.1.2 j hj)
     | false =>
      refine ⟨β2,S',rfl,(fun e=>absurd e (by simp[zEb])),(fun b hb=>R'.rl.sg b hb),(fun _ b hb=>R'.rl.s0 b hb),M2,hv2,fun i x hx=>?_⟩
      simp only[zEb,List.mem_map,Prod.mk.injEq]at hx
      obtain ⟨j,hj,rfl,rfl⟩:=hx
      exact hroot j hj
   ·cases ho
  obtain ⟨Ds,e1,n1,q1⟩:=R1.rl.defers
  have done:zGY C.cfg fn.results.toList hs st'=some out→LeavesInM Fence.wide 0 C.P fn a1.tmps (Post w F S vals out) a1.defers .returning w1:=fun ho =>
   R1.take (fun b hb=>M.bound b hb) Ds e1 (fun S' w' R'=>fin (a':={ a1 with defers:=[] }) R' ho)
  cases ex with
  | normal=>obtain ⟨o,h3,rfl⟩:=zv2 (C:=C) (rs:=fn.results.toList) (hs:=hs) (st:=st') (Q:=(·=out)) h2; exact done h3
  | ret=>obtain ⟨o,h3,rfl⟩:=zv2 (C:=C) (rs:=fn.results.toList) (hs:=hs) (st:=st') (Q:=(·=out)) h2; exact done h3
  | exit id=>exact h2.elim
end Go.Proofs.YtnolgfdjcipmmaaDoor.M
namespace Go.Proofs.YtnolgfdjcipmmaaDoor.M
open Go
abbrev Ans:=List A→List (Nat × Blk)→Option (Cn × CallOut)
open Classical in
noncomputable def unW (c:Ans) (xs:List A) (mem:List (Nat × Blk)):Option CallOut:=(c xs mem).bind fun r=>if r.1.h then some r.2 else none
theorem zxO {c:Ans} {xs:List A} {mem:List (Nat × Blk)} {out:CallOut} (h:unW c xs mem=some out):∃ p:Cn,c xs mem=some (p,out)∧p.h:=by
 unfold unW at h
 obtain ⟨⟨p,o⟩,h1,h2⟩:=Option.bind_eq_some_iff.1 h
 by_cases hp:p.h
 ·rw[if_pos hp]at h2
  cases h2
  exact ⟨p,h1,hp⟩
 ·rw[if_neg hp]at h2; cases h2
abbrev Tbl:=List (Nat × List Bool × Ans)
def Tbl.cs (T:Tbl) (f:Nat) (xs:List A) (mem:List (Nat × Blk)):Option (Cn × CallOut):=match lk T f with
 | some c=>c.2 xs mem
 | none=>none
def Tbl.sig (T:Tbl) (f:Nat):List Bool:=match lk T f with
 | some c=>c.1
 | none=>[]
inductive TblOK (P:Program) (G:Nat→Option PV):Tbl→Prop
 | nil:TblOK P G []
 | cons {f s c T}:zpR P f=true∧FnOK P G f (unW c)→TblOK P G T→TblOK P G ((f,s,c) :: T)
theorem TblOK.at {P:Program} {G:Nat→Option PV}:∀ {T:Tbl},TblOK P G T→∀ {f:Nat} {c:List Bool × Ans},lk T f=some c→zpR P f=true∧FnOK P G f (unW c.2)
 | _,.nil,f,c,h=>by cases h
 | _,.cons (f:=g) h1 h2,f,c,h=>by
  rw[zaD]at h
  by_cases e:g=f
  ·rw[if_pos e]at h; cases h; subst e; exact h1
  ·rw[if_neg e]at h; exact h2.at h
abbrev ItT:=Nat→List A→(Nat→Option Blk)→Option (List Nat × List (List PV))
def noIt:ItT:=fun _ _ _=>none
def mkC (P:Program) (G:Nat→Option PV) (T:Tbl) (nt np:Nat) (nf:Bool:=false) (it:ItT:=noIt) (mv:List Nat:=[]):CfgW:={ P:=P,G:=G,cs:=T.cs,sig:=T.sig,nt:=nt,np:=np,nf:=nf,it:=it,mv:=mv }
theorem zJc {P:Program} {G:Nat→Option PV}:ItsOK P G noIt:=ItsOK.none
theorem zJv {P:Program} {G:Nat→Option PV} {T:Tbl} {nt np:Nat} {nf:Bool} {it:ItT} {mv:List Nat} (h:TblOK P G T):CfgOK (mkC P G T nt np nf it mv).cfg where
 fn f ys mem r hr:=by
  have hr:unW (T.cs f) ys mem=some r:=hr
  have hlk:∃ c,lk T f=some c∧T.cs f=c.2:=by
   unfold Tbl.cs
   cases hq:lk T f with
   | some c=>exact ⟨c,rfl,rfl⟩
   | none =>
    obtain ⟨p,h1,_⟩:=zxO hr
    simp only[Tbl.cs,hq]at h1
    cases h1
  obtain ⟨c,hc,he⟩:=hlk
  obtain ⟨h1,h2⟩:=h.at hc
  refine ⟨h1,?_⟩
  have:(mkC P G T nt np nf it mv).cfg.cs f=unW c.2:=by
   show unW (T.cs f)=unW c.2
   rw[he]
  rw[this]
  exact h2
theorem FnOK.ofC {P:Program} {G:Nat→Option PV} {T:Tbl} {nt np:Nat} {nf:Bool} {it:ItT} {mv:List Nat} (hT:TblOK P G T) (hm:P.follows .mixedOrders=true) {f:FuncId} {fn:Func} {body:Code} (hf:P.funcs[f]?=some fn) (hb:fn.body=some body) (hn:fn.ntmps=nt)
  {c:Ans} {lv:Nat→List Nat} {hs:List Nat} (h:∀ xs mem p out,c xs mem=some (p,out)→p.h→zac (mkC P G T nt np nf it mv) lv fn.results.toList hs body xs mem (·=out)) (hI:ItsOK P G it:=by exact zJc):FnOK P G f (unW c) :=
 FnOK.of_P (C:=mkC P G T nt np nf it mv) (zJv hT) hI hm hf hb hn (lv:=lv) (hs:=hs) fun xs mem out ho=>by
  obtain ⟨p,h1,h2⟩:=zxO ho
  exact h xs mem p out h1 h2
def orC (c d:Ans):Ans:=fun xs mem=>match c xs mem with
 | some r=>some r
 | none=>d xs mem
theorem FnOK.orC {P:Program} {G:Nat→Option PV} {f:FuncId} {c d:Ans} (h:FnOK P G f (unW c)) (h':FnOK P G f (unW d)):FnOK P G f (unW (orC c d)):=by
 intro w β S F args mem vals out ho
 obtain ⟨p,h1,h2⟩:=zxO ho
 unfold M.orC at h1
 split at h1
 ·rename_i r hr
  cases h1
  exact h w β S F args mem vals out (by unfold unW; rw[hr]; exact if_pos h2)
 ·exact h' w β S F args mem vals out (by unfold unW; rw[h1]; exact if_pos h2)
theorem FnOK.congr {P:Program} {G:Nat→Option PV} {f:FuncId} {s s':List A→List (Nat × Blk)→Option CallOut} (h:FnOK P G f s) (e:∀ xs mem out,s' xs mem=some out→s xs mem=some out):FnOK P G f s' :=
 fun w β S F args mem vals out ho=>h w β S F args mem vals out (e _ _ _ ho)
section
variable {α:Type} {r:α} {T T':Prop}
theorem zad {p:Prop} [Decidable p] {x:Option α} (h:(if p then x else none)=some r) (g:p→x=some r→T):p∧T:=by
 by_cases hp:p
 ·rw[if_pos hp]at h; exact ⟨hp,g hp h⟩
 ·rw[if_neg hp]at h; cases h
theorem zab {b:Bool} {x y:Option α} (h:(bif b then x else y)=some r) (g:x=some r→T) (g':y=some r→T'):zaf b T T':=by
 cases b with
 | true=>exact g h
 | false=>exact g' h
theorem zag {β:Type} {Q:β→Prop} {e:α→β} {a:α} (h:some a=some r) (hQ:Q (e r)):Q (e a):=by cases h; exact hQ
theorem zb9 (h:(none:Option α)=some r):T:=by cases h
theorem zdd {Q:α→Prop} {b:Bool} {x y:α} (h:Q (bif b then x else y)) (g:Q x→T) (g':Q y→T'):zaf b T T':=by
 cases b with
 | true=>exact g h
 | false=>exact g' h
end
end Go.Proofs.YtnolgfdjcipmmaaDoor.M
namespace Go.Proofs.YtnolgfdjcipmmaaDoor.M
open Go
section
variable {C:Cfg} {ops:Array Oper}
end
section
variable {P:Program} {ops:Array Oper} {Q:Exit→Act→World→Prop} {fr:Option Nat} {fn:Nat}
end
def bxL:Nat→List (Nat × PV)→List (Nat × Blk)
 | _,[]=>[]
 | i,(_,x) :: r=>(i,.box (.pv x)) :: bxL (i+1) r
theorem zFN:∀ (bx:List (Nat × PV)) (i n:Nat) (b:Blk),lk (bxL i bx) n=some b→∃ p x,i≤n∧bx[n - i]?=some (p,x)∧b=.box (.pv x)
 | [],i,n,b,h=>by cases h
 | (p,x) :: r,i,n,b,h=>by
  simp only[bxL]at h
  rw[zaD]at h
  by_cases e:i=n
  ·subst e
   rw[if_pos rfl]at h
   cases h
   exact ⟨p,x,Nat.le_refl _,by simp,rfl⟩
  ·rw[if_neg e]at h
   obtain ⟨q,y,h1,h2,h3⟩:=zFN r (i+1) n b h
   refine ⟨q,y,by omega,?_,h3⟩
   have:n - i=(n - (i+1))+1:=by omega
   rw[this,List.getElem?_cons_succ]
   exact h2
theorem zGD:∀ (bx:List (Nat × PV)) (i n:Nat) {p:Nat} {x:PV},bx[n]?=some (p,x)→lk (bxL i bx) (i+n)=some (.box (.pv x))
 | [],_,_,_,_,h=>by cases h
 | (q,y) :: r,i,0,p,x,h=>by
  simp only[List.getElem?_cons_zero,Option.some.injEq,Prod.mk.injEq]at h
  obtain ⟨rfl,rfl⟩:=h
  simp[bxL,zaD]
 | (q,y) :: r,i,n+1,p,x,h=>by
  rw[List.getElem?_cons_succ]at h
  have:=zGD r (i+1) n h
  simp only[bxL]
  rw[zaD,if_neg (by omega)]
  rw[show i+(n+1)=i+1+n from by omega]
  exact this
def zI9 (h:Array Obj) (p:Nat) (x:PV):Prop:=∃ cs T,h[p]?=some (.cells cs T (0,0))∧RepPV (fun _=>False) #[] x cs.toList
def bxβ (bx:List (Nat × PV)) (n:Nat):Value:=.pointer (some ⟨((bx[n - 60000]?).map (·.1)).getD 0,0,none⟩)
def itK (w:World) (ps:List Nat) (S:Nat→Prop) (G:Nat→Option PV) (nt np:Nat) (a:Act):Wk :=
 {w0:=w,F:=fun b=>b ∈ ps,S0:=S,G:=G,nt:=nt,np:=np,par:=fun t=>a.tmps.getD t undef,nd:=true }
theorem zHT {G:Nat→Option PV} {S:Nat→Prop} {w:World} {a:Act} {bx:List (Nat × PV)} {nt np:Nat} {E:List (Nat × A)} (hG:zln G S w.heap) (hS:∀ b,S b→b < w.heap.size) (hb:∀ p x,(p,x) ∈ bx→zI9 w.heap p x∧¬ S p) (hd:(bx.map (·.1)).Nodup)
  (hnt:a.tmps.size=nt) (hdf:a.defers=[]) (hE:∀ t,RepA (bxβ bx) S w.heap (lk (bxL 60000 bx)) ((lk E t).getD .bad) (a.tmps.getD t undef)) (hbig:∀ t,nt≤t→(lk E t).getD .bad=.bad) :
  RlF (itK w (bx.map (·.1)) S G nt np a) (bxβ bx) S (St.e { E:=E,L:=bxL 60000 bx }) (lk (bxL 60000 bx)) a w where
 rl:={
  mem:=by
   have at':∀ n b,lk (bxL 60000 bx) n=some b→∃ p x,60000≤n∧bx[n - 60000]?=some (p,x)∧b=.box (.pv x)∧bxβ bx n=.pointer (some ⟨p,0,none⟩):=fun n b h=>by
    obtain ⟨p,x,h1,h2,h3⟩:=zFN bx 60000 n b h
    exact ⟨p,x,h1,h2,h3,by simp[bxβ,h2]⟩
   refine ⟨fun n b h=>?_,fun n b h q hq=>?_,fun n m hne h1 h2 q hq hq'=>?_,hS⟩
   ·obtain ⟨p,x,_,h2,rfl,h4⟩:=at' n b h
    obtain ⟨⟨cs,T,h5,h6⟩,_⟩:=hb p x (List.mem_of_getElem? h2)
    exact ⟨p,cs,T,h4,h5,.pv (h6.mono (fun _ h=>h.elim) (fun _ h=>h.elim))⟩
   ·obtain ⟨p,x,_,h2,rfl,h4⟩:=at' n b h
    rw[h4]at hq
    have hq:p=q:=hq
    subst hq
    obtain ⟨⟨cs,T,h5,h6⟩,h7⟩:=hb p x (List.mem_of_getElem? h2)
    exact ⟨h7,(Array.getElem?_eq_some_iff.1 h5).1,.inr (List.mem_map.2 ⟨_,List.mem_of_getElem? h2,rfl⟩)⟩
   ·obtain ⟨b1,hb1⟩:=Option.isSome_iff_exists.1 h1
    obtain ⟨b2,hb2⟩:=Option.isSome_iff_exists.1 h2
    obtain ⟨p,x,g1,h3,_,h4⟩:=at' n b1 hb1
    obtain ⟨p',x',g2,h3',_,h4'⟩:=at' m b2 hb2
    rw[h4]at hq
    rw[h4']at hq'
    have hq:p=q:=hq
    have hq':p'=q:=hq'
    have e1:(bx.map (·.1))[n - 60000]?=some q:=by simp[h3,hq]
    have e2:(bx.map (·.1))[m - 60000]?=some q:=by simp[h3',hq']
    have:=(List.getElem?_inj (by have:=(List.getElem?_eq_some_iff.1 e1).1; exact this) hd).1 (e1.trans e2.symm)
    exact hne (by omega)
  env:=fun t x hx=>by cases hx
  glob:=hG
  keep:=fun _ _ _=>rfl
  size:=Nat.le_refl _
  s0:=fun _ h=>h
  sg:=fun _ h=>.inl h
  os:=rfl
  tape:=rfl
  output:=rfl
  nt:=hnt
  defers:=by rw[hdf]; exact .nil
  nd:=fun _=>hdf
  par:=fun _ _=>rfl }
 env:=hE
 big:=hbig
theorem zHx {G:Nat→Option PV} {S:Nat→Prop} {w0 w:World} {a0 a:Act} {bx0 bx:List (Nat × PV)} {nt np:Nat} {β:Nat→Value} {S':Nat→Prop} {e:Nat→A} (R:RlF (itK w0 (bx0.map (·.1)) S G nt np a0) β S' e (lk (bxL 60000 bx)) a w)
  (hfl:∀ p x,(p,x) ∈ bx→x.flat=true) (hs:∀ n p x,bx[n]?=some (p,x)→∃ t,t < np∧a0.tmps.getD t undef=.pointer (some ⟨p,0,none⟩)∧e t=.p (60000+n) []) :
  (∀ p x,(p,x) ∈ bx→zI9 w.heap p x)∧Ch (fun b=>b ∈ bx0.map (·.1)) w0 w∧zln G S' w.heap∧(∀ b,S b→S' b)∧a.tmps.size=nt∧(∀ t,t < np→a.tmps.getD t undef=a0.tmps.getD t undef):=by
 refine ⟨fun p x hx=>?_,⟨R.rl.size,R.rl.keep,R.rl.os,R.rl.tape,R.rl.output⟩,R.rl.glob,R.rl.s0,R.rl.nt,R.rl.par⟩
 obtain ⟨n,hn⟩:=List.mem_iff_getElem?.1 hx
 obtain ⟨t,ht,hp,he⟩:=hs n p x hn
 have hL:=zGD bx 60000 n hn
 obtain ⟨b,cs,T,h1,h2,h3⟩:=R.rl.mem.blk (60000+n) _ hL
 have hv:=R.env t
 have hpar:a.tmps.getD t undef=a0.tmps.getD t undef:=R.rl.par t ht
 rw[he,hpar,hp]at hv
 obtain ⟨vs,rv,ev⟩:=hv
 cases rv with
 | p e1 e2 e3 =>
  rw[hL]at e1
  cases e1
  rw[h1]at e3
  simp only[zbT,Option.some.injEq,Addr.mk.injEq]at e3
  obtain ⟨rfl,rfl,_⟩:=e3
  have ev:Value.pointer (some ⟨p,0,none⟩)=Value.pointer (some ⟨b,0+(Blk.box (.pv x)).off [],none⟩):=ev
  simp only[Value.pointer.injEq,Option.some.injEq,Addr.mk.injEq]at ev
  obtain ⟨rfl,_⟩:=ev
  refine ⟨cs,T,h2,?_⟩
  cases h3 with
  | pv h3=>exact (h3.flat' (S2:=fun _=>False) (hfl p x hx)).mono (fun _ h=>h) (fun _ h=>h.elim)
abbrev zJN (x:A) (v:Value):Prop:=RepA (fun _=>undef) (fun _=>False) #[] (fun _=>none) x v
def zJe (s:St):Bool:=s.E.all fun p=>match p.2 with
 | .pv x=>x.flat
 | .p _ []=>true
 | .bad=>true
 | _=>false
theorem zC9 {s:St} (h:zJe s=true) (q:Nat):(∃ x,s.e q=.pv x∧x.flat=true)∨(∃ n,s.e q=.p n [])∨s.e q=.bad:=by
 unfold St.e
 cases hq:lk s.E q with
 | none=>exact .inr (.inr rfl)
 | some y =>
  have:=List.all_eq_true.1 h _ (zcn hq)
  simp only at this
  simp only[Option.getD_some]
  split at this
  ·exact .inl ⟨_,rfl,this⟩
  ·exact .inr (.inl ⟨_,rfl⟩)
  ·exact .inr (.inr rfl)
  ·cases this
structure ItH (nt:Nat) (S:Nat→Prop) (w:World) (bx:List (Nat × PV)) (s:St) (a:Act) (W:World):Prop where
 nt:a.tmps.size=nt
 df:a.defers=[]
 vals:∀ q x,s.e q=.pv x→zJN (.pv x) (a.tmps.getD q undef)
 ptrs:∀ q n,s.e q=.p n []→∃ p x,60000≤n∧bx[n - 60000]?=some (p,x)∧a.tmps.getD q undef=.pointer (some ⟨p,0,none⟩)
 L:s.L=bxL 60000 bx
 box:∀ p x,(p,x) ∈ bx→zI9 W.heap p x
 sz:w.heap.size≤W.heap.size
 same:∀ b,S b→W.heap[b]?=w.heap[b]?
section
variable {nt np:Nat} {S:Nat→Prop} {w W:World} {bx bx':List (Nat × PV)} {s t:St} {a:Act} {G:Nat→Option PV}
theorem ItH.rl (h:ItH nt S w bx s a W) (hG:zln G S w.heap) (hS:∀ b,S b→b < w.heap.size) (hp:∀ p,p ∈ bx.map (·.1)→¬ S p) (hd:(bx.map (·.1)).Nodup) (hf:zJe s=true) (hbig:(s.E.all fun p=>Nat.blt p.1 nt)=true) :
  RlF (itK W (bx.map (·.1)) S G nt np a) (bxβ bx) S s.e (lk s.L) a W:=by
 have hG':zln G S W.heap:=fun g x hg=>by
  obtain ⟨h1,vs,h2,h3⟩:=hG g x hg
  exact ⟨h1,vs,h2.mono (fun _ h=>h) h.same,h3.mono (h.same _ h1)⟩
 have:=zHT (np:=np) (E:=s.E) hG' (fun b hb=>Nat.lt_of_lt_of_le (hS b hb) h.sz) (fun p x hx=>⟨h.box p x hx,hp p (List.mem_map.2 ⟨_,hx,rfl⟩)⟩) hd h.nt h.df (fun q=>?_) (fun q hq=>?_)
 ·rw[←h.L]at this
  exact this
 ·show RepA (bxβ bx) S W.heap (lk (bxL 60000 bx)) (s.e q) (a.tmps.getD q undef)
  rcases zC9 hf q with ⟨x,hx,_⟩ | ⟨n,hn⟩ | hb
  ·have:=h.vals q x hx
   rw[hx]
   obtain ⟨vs,r,e⟩:=this.pv_inv
   rw[e]
   exact RepA.pv (r.mono (fun _ h=>h.elim) (fun _ h=>h.elim))
  ·rw[hn]
   obtain ⟨p,x,h1,h2,h3⟩:=h.ptrs q n hn
   have hL:=zGD bx 60000 (n - 60000) h2
   rw[show 60000+(n - 60000)=n from by omega]at hL
   have hβ:bxβ bx n=.pointer (some ⟨p,0,none⟩):=by simp[bxβ,h2]
   rw[h3]
   refine ⟨_,.p hL (show (Blk.box (A.pv x)).ok []from A.ok_nil (A.pv x)) (by rw[hβ]; rfl),?_⟩
   show Value.pointer _=Value.pointer (some ⟨p,0+(A.pv x).off [],none⟩)
   rw[A.off_nil]
  ·rw[hb]; exact RepA.bad _
 ·cases hq':lk s.E q with
  | none=>rfl
  | some y =>
   have:=List.all_eq_true.1 hbig _ (zcn hq')
   rw[Nat.blt_eq]at this
   simp only at this
   omega
theorem ItH.of {W':World} {a':Act} {β':Nat→Value} {S':Nat→Prop} (h:ItH nt S w bx s a W) (hS:∀ b,S b→b < w.heap.size) (hp:∀ p,p ∈ bx.map (·.1)→¬ S p) (R:RlF (itK W (bx.map (·.1)) S G nt np a) β' S' t.e (lk t.L) a' W') (hL:t.L=bxL 60000 bx') (hmap:bx'.map (·.1)=bx.map (·.1)) (hf:zJe t=true)
  (hfl:∀ p x,(p,x) ∈ bx'→x.flat=true) (hs:∀ n,n < bx.length→∃ q,q < np∧s.e q=.p (60000+n) []∧t.e q=.p (60000+n) []):
  ItH nt S w bx' t a' W'∧Ch (fun b=>b ∈ bx.map (·.1)) W W'∧∀ q,q < np→a'.tmps.getD q undef=a.tmps.getD q undef:=by
 have hd:a'.defers=[]:=R.rl.nd rfl
 rw[hL]at R
 have hptr:∀ n p x,bx'[n]?=some (p,x)→∃ q,q < np∧a.tmps.getD q undef=.pointer (some ⟨p,0,none⟩)∧t.e q=.p (60000+n) []:=fun n p x hn=>by
  have e1:(bx.map (·.1))[n]?=some p:=by rw[←hmap]; simp[hn]
  have hlt:n < bx.length:=by have:=(List.getElem?_eq_some_iff.1 e1).1; simpa using this
  obtain ⟨q,hq,e2,e3⟩:=hs n hlt
  obtain ⟨p',x',h1,h2,h3⟩:=h.ptrs q _ e2
  rw[Nat.add_sub_cancel_left]at h2
  have:p'=p:=by simpa [h2] using e1
  exact ⟨q,hq,this ▸ h3,e3⟩
 obtain ⟨b1,ch,gl,_,hnt,par⟩:=zHx R hfl hptr
 refine ⟨⟨hnt,hd,fun q x hx=>?_,fun q n hn=>?_,hL,b1,Nat.le_trans h.sz ch.size,fun b hb=>?_⟩,ch,par⟩
 ·have:=R.env q
  rw[hx]at this
  obtain ⟨vs,r,e⟩:=this.pv_inv
  rcases zC9 hf q with ⟨x',hx',hfx⟩ | ⟨n,hn⟩ | hb
  ·rw[hx]at hx'; cases hx'
   rw[e]
   exact RepA.pv ((r.flat' (S2:=fun _=>False) hfx).mono (fun _ h=>h) (fun _ h=>h.elim))
  ·rw[hx]at hn; cases hn
  ·rw[hx]at hb; cases hb
 ·have hv:=R.env q
  rw[hn]at hv
  obtain ⟨vs,rv,ev⟩:=hv
  cases rv with
  | p e1 e2 e3 =>
   obtain ⟨p,x,g1,g2,g3⟩:=zFN bx' 60000 n _ e1
   refine ⟨p,x,g1,g2,?_⟩
   obtain ⟨q',hq',e4,e5⟩:=hptr _ p x g2
   have hv:=R.env q'
   rw[e5,show 60000+(n - 60000)=n from by omega,par q' hq',e4]at hv
   obtain ⟨vs',rv',ev'⟩:=hv
   rw[ev]
   cases rv' with
   | p f1 f2 f3 =>
    rw[e3]at f3
    cases f3
    rw[e1]at f1
    cases f1
    exact ev'.symm
 ·exact (ch.keep b (Nat.lt_of_lt_of_le (hS b hb) h.sz) (fun hm=>hp b hm hb)).trans (h.same b hb)
theorem ItH.put (h:ItH nt S w bx s a W) {d:Nat} {v:Value} (hd:d < nt) (hb:s.e d=.bad):ItH nt S w bx s (a.put (some d) v) W:=by
 have e:∀ q,s.e q≠.bad→(a.put (some d) v).tmps.getD q undef=a.tmps.getD q undef:=fun q hq=>by
  rw[zrb a d v q (by rw[h.nt]; exact hd),if_neg (fun e=>by subst e; exact hq hb)]
 refine ⟨by simp[Act.put,h.nt],h.df,fun q x hx=>?_,fun q n hn=>?_,h.L,h.box,h.sz,h.same⟩
 ·rw[e q (by rw[hx]; simp)]; exact h.vals q x hx
 ·rw[e q (by rw[hn]; simp)]; exact h.ptrs q n hn
theorem ItH.world {W':World} (h:ItH nt S w bx s a W) (hS:∀ b,S b→b < w.heap.size) {Fi:Nat→Prop} (hF:∀ b,b ∈ bx.map (·.1)→Fi b) (hc:Ch (fun b=>¬ (S b∨Fi b)) W W'):ItH nt S w bx s a W':=by
 refine ⟨h.nt,h.df,h.vals,h.ptrs,h.L,fun p x hx=>?_,Nat.le_trans h.sz hc.size,fun b hb=>?_⟩
 ·obtain ⟨cs,T,h1,h2⟩:=h.box p x hx
  have hlt:=(Array.getElem?_eq_some_iff.1 h1).1
  exact ⟨cs,T,(hc.keep p hlt (fun hn=>hn (.inr (hF p (List.mem_map.2 ⟨_,hx,rfl⟩))))).trans h1,h2⟩
 ·exact (hc.keep b (Nat.lt_of_lt_of_le (hS b hb) h.sz) (fun hn=>hn (.inl hb))).trans (h.same b hb)
theorem ItH.cut (h:ItH nt S w bx s a W) (hL:t.L=s.L) (he:∀ q,t.e q=s.e q∨t.e q=.bad):ItH nt S w bx t a W:=by
 refine ⟨h.nt,h.df,fun q x hx=>?_,fun q n hn=>?_,hL.trans h.L,h.box,h.sz,h.same⟩
 ·rcases he q with e | e
  ·exact h.vals q x (e ▸ hx)
  ·rw[hx]at e; cases e
 ·rcases he q with e | e
  ·exact h.ptrs q n (e ▸ hn)
  ·rw[hn]at e; cases e
end
end Go.Proofs.YtnolgfdjcipmmaaDoor.M
namespace Go.Proofs.YtnolgfdjcipmmaaDoor.M
open Go
def Ev {R:Type} (f:Nat→Option R) (r:R):Prop:=∃ k,f k=some r
theorem Ev.step {R:Type} {f g:Nat→Option R} {r:R} (h:∀ k,f (k+1)=g k) (e:Ev g r):Ev f r:=by
 obtain ⟨k,hk⟩:=e
 exact ⟨k+1,(h k).trans hk⟩
theorem Ev.same {R:Type} {f g:Nat→Option R} {r:R} (h:∀ k,f k=g k) (e:Ev g r):Ev f r:=by
 obtain ⟨k,hk⟩:=e
 exact ⟨k,(h k).trans hk⟩
theorem Ev.done {R:Type} {f:Nat→Option R} {r:R} (h:∀ k,f (k+1)=some r):Ev f r:=⟨1,h 0⟩
theorem zIl:Acc (fun _ _:Nat=>False) 0:=(propext ⟨fun _=>⟨_,fun _ h=>h.elim⟩,fun _=>trivial⟩:True=Acc (fun _ _:Nat=>False) 0) ▸ trivial
noncomputable def lock {α:Type} (x:α):α:=Acc.rec (motive:=fun _ _=>α) (fun _ _ _=>x) zIl
theorem za7 {α:Type} (x:α):lock x=x:=by
 have:∀ (n:Nat) (h:Acc (fun _ _:Nat=>False) n),(Acc.rec (motive:=fun _ _=>α) (fun _ _ _=>x) h:α)=x:=by
  intro n h
  cases h
  rfl
 exact this 0 zIl
def zbP {σ:Type} (step:Nat→σ→σ):Nat→Nat→σ→σ
 | _,0,s=>s
 | i,m+1,s=>zbP step (i+1) m (step i s)
theorem zc7 {σ:Type} (step:Nat→σ→σ):∀ (m i:Nat) (s:σ),zbP step i (m+1) s=step (i+m) (zbP step i m s)
 | 0,i,s=>rfl
 | m+1,i,s=>by
  show zbP step (i+1) (m+1) (step i s)=step (i+(m+1)) (zbP step (i+1) m (step i s))
  rw[zc7 step m (i+1)]
  rw[show i+1+m=i+(m+1) by omega]
theorem zkc {σ:Type} {f g:Nat→σ→σ}:∀ (m i:Nat) (s:σ),(∀ j s,i≤j→j < i+m→f j s=g j s)→zbP f i m s=zbP g i m s
 | 0,_,_,_=>rfl
 | m+1,i,s,h=>by
  show zbP f (i+1) m (f i s)=zbP g (i+1) m (g i s)
  rw[h i s (by omega) (by omega)]
  exact zkc m (i+1) _ fun j s h1 h2=>h j s (by omega) (by omega)
theorem Ev.up {R σ:Type} {H:Nat→Int→σ→Option R} {lo n:Nat} {step:Nat→σ→σ} {r:R}
  (hs:∀ (i:Nat) (s:σ),lo≤i→i < n→Ev (fun k=>H k ((i:Int)+1) (step i s)) r→Ev (fun k=>H k (i:Int) s) r):∀ (m i:Nat) (s:σ),lo≤i→i+m=n →
  Ev (fun k=>H k (n:Int) (zbP step i m s)) r→Ev (fun k=>H k (i:Int) s) r
 | 0,i,s,_,hi,e=>by
  obtain rfl:i=n:=by omega
  exact e
 | m+1,i,s,hl,hi,e=>by
  refine hs i s hl (by omega) ?_
  have:=Ev.up hs m (i+1) (step i s) (by omega) (by omega) e
  simpa using this
theorem zJH (x:Int):w64 x=if x % 18446744073709551616 ≥ 9223372036854775808 then x % 18446744073709551616 - 18446744073709551616 else x % 18446744073709551616:=by
 unfold w64 IntKind.wrap
 have e1:(2:Int) ^ (IntKind.i64.bits)=18446744073709551616:=by decide
 have e2:(2:Int) ^ (IntKind.i64.bits - 1)=9223372036854775808:=by decide
 have e3:IntKind.i64.signed=true:=rfl
 simp only[e1,e2,e3,Bool.true_and,decide_eq_true_eq]
theorem zaj {x:Int} (h1:-9223372036854775808≤x) (h2:x < 9223372036854775808):w64 x=x:=by
 rw[zJH]
 split<;>omega
theorem zan {α:Type} {p:Prop} [Decidable p] {x y:α} (h:p):(bif decide p then x else y)=x:=by simp[h]
theorem zau {α:Type} {p:Prop} [Decidable p] {x y:α} (h:¬ p):(bif decide p then x else y)=y:=by simp[h]
theorem zDz {α:Type} (l:List α) (i j:Nat) (x d:α):(l.set i x).getD j d=if i=j∧i < l.length then x else l.getD j d:=by
 simp only[List.getD,List.getElem?_set]
 by_cases h:i=j
 ·subst h
  by_cases h2:i < l.length
  ·simp[h2]
  ·simp[h2]
 ·simp[h]
theorem zax {α:Type} {n:Nat} (v:Vector α n) (i j:Nat) (x d:α) (hi:i < n):(v.setIfInBounds i x).toList.getD j d=if i=j then x else v.toList.getD j d:=by
 have:(v.setIfInBounds i x).toList=v.toList.set i x:=by
  simp[Vector.toList,Vector.setIfInBounds]
 rw[this,zDz]
 by_cases h:i=j<;>simp[h,hi,Vector.length_toList]
 intro h2; omega
theorem zjB {α:Type} {n:Nat} (j:Nat) (d:α):(Vector.replicate n d).toList.getD j d=d:=by
 have:(Vector.replicate n d).toList=List.replicate n d:=by simp[Vector.toList]
 rw[this,List.getD,List.getElem?_replicate]
 split<;>rfl
theorem vext {α:Type} {n:Nat} {v w:Vector α n} (d:α) (h:∀ j,j < n→v.toList.getD j d=w.toList.getD j d):v=w:=by
 apply Vector.ext
 intro j hj
 have:=h j hj
 simpa [List.getD,hj] using this
theorem zJK {α:Type} (n j:Nat) (d:α):(List.replicate n d).getD j d=d:=by
 rw[List.getD,List.getElem?_replicate]; split<;>rfl
theorem zJi {α:Type} {l m:List α} (d:α) (hl:l.length=m.length) (h:∀ j,j < l.length→l.getD j d=m.getD j d):l=m:=by
 apply List.ext_getElem hl
 intro j h1 h2
 have:=h j h1
 simpa [List.getD,h1,h2] using this
end Go.Proofs.YtnolgfdjcipmmaaDoor.M
namespace Go.Proofs.YtnolgfdjcipmmaaDoor.M
open Go Go.RowKit Go.ChangeShapes Go.WideShapes
inductive Sh where
 | sc (k:EK)
 | arr (k:EK) (n:Nat)
 | st (fs:List Sh)
 | ar (n sz:Nat) (s:Sh)
 | sl (k:EK)
 | sp (sz:Nat) (s:Sh)
def EK.bytes:EK→Nat
 | .u8=>1 | .u16=>2 | .u32=>4 | .u64=>8 | .i=>8 | .b=>1
def EK.fits:(k:EK)→k.T→Prop
 | .i,x=>-9223372036854775808≤(x:Int)∧(x:Int) < 9223372036854775808
 | _,_=>True
mutual
def Sh.size:Sh→Nat
 | .sc _=>1
 | .arr _ n=>n
 | .st fs=>Sh.sizeL fs
 | .ar n sz _=>n*sz
 | .sl _=>1
 | .sp _ _=>1
def Sh.sizeL:List Sh→Nat
 | []=>0
 | s :: ss=>s.size+Sh.sizeL ss
end
def Sh.agg:Sh→Bool
 | .arr .. | .st _ | .ar ..=>true
 | _=>false
mutual
def Fit:Sh→PV→Prop
 | .sc k,y=>∃ x:k.T,y=.sc k x∧k.fits x
 | .arr k n,y=>∃ v:Vector k.T n,y=.arr k n v∧∀ x ∈ v.toList,k.fits x
 | .st ss,y=>∃ ys,y=.st ys∧FitL ss ys
 | .ar n sz s,y=>∃ ys,y=.ar sz ys∧ys.length=n∧∀ x ∈ ys,Fit s x
 | .sl k,y=>∃ xs,y=.sl k xs∧(∀ x ∈ xs,k.fits x)∧xs.length*k.bytes≤140737488351232
 | .sp sz s,y=>∃ xs,y=.sp sz xs∧(∀ x ∈ xs,Fit s x)∧xs.length≤140737488351232
def FitL:List Sh→List PV→Prop
 | [],ys=>ys=[]
 | s :: ss,ys=>∃ z zs,ys=z :: zs∧Fit s z∧FitL ss zs
end
theorem Fit.agg:∀ {s:Sh} {y:PV},Fit s y→y.isAgg=s.agg
 | .sc _,_,h=>by obtain ⟨_,rfl,_⟩:=h; rfl
 | .arr ..,_,h=>by obtain ⟨_,rfl,_⟩:=h; rfl
 | .st _,_,h=>by obtain ⟨_,rfl,_⟩:=h; rfl
 | .ar ..,_,h=>by obtain ⟨_,rfl,_⟩:=h; rfl
 | .sl _,_,h=>by obtain ⟨_,rfl,_⟩:=h; rfl
 | .sp ..,_,h=>by obtain ⟨_,rfl,_⟩:=h; rfl
def scT (P:Program) (k:EK) (t:TypeId):Bool :=
 match P.underlying t,k with
 | some (.int .u8),.u8 | some (.int .u16),.u16 | some (.int .u32),.u32 | some (.int .u64),.u64 | some (.int .i64),.i | some .bool,.b=>true
 | _,_=>false
mutual
def Sh.okT (P:Program):Sh→TypeId→Bool
 | .sc k,t=>scT P k t
 | .arr k n,t=>match P.underlying t with
  | some (.array m e)=>Nat.beq m n && Nat.beq (P.cellsOf e) 1 && Nat.beq (P.cellsOf t) n && scT P k e
  | _=>false
 | .st ss,t=>match P.underlying t with
  | some (.struct fs)=>Nat.beq (P.cellsOf t) (Sh.sizeL ss) && Sh.okF P ss fs.toList 0
  | _=>false
 | .ar n sz s,t=>match P.underlying t with
  | some (.array m e)=>Nat.beq m n && Nat.beq (P.cellsOf e) sz && Nat.beq (P.cellsOf t) (n*sz) && Nat.beq s.size sz && s.okT P e
  | _=>false
 | .sl k,t=>match P.underlying t with
  | some (.slice e)=>Nat.beq (P.cellsOf e) 1 && Nat.beq (P.bytesOf e) k.bytes && scT P k e
  | _=>false
 | .sp sz s,t=>match P.underlying t with
  | some (.slice e)=>Nat.beq (P.cellsOf e) sz && Nat.ble 1 sz && Nat.ble 1 (P.bytesOf e) && Nat.beq s.size sz && s.okT P e
  | _=>false
def Sh.okF (P:Program):List Sh→List Field→Nat→Bool
 | [],[],_=>true
 | s :: ss,f :: fs,o=>Nat.beq f.offset o && Nat.beq (P.cellsOf f.type) s.size && s.okT P f.type && Sh.okF P ss fs (o+s.size)
 | _,_,_=>false
end
section
variable {H:Type} {enc:TypeId × Value→H} {P:Program} {w:World} {held:Bool} {fuel:Nat} {t:TypeId} {cs:List Value} {x:DataW H × List MemPlace}
theorem nb {a b:Nat} (h:Nat.beq a b=true):a=b:=Nat.eq_of_beq_eq_true h
theorem zCi {k:EK} {sp:Nat→Bool} (ht:scT P k t=true) (h:DataW.trod enc P w 0 sp held fuel t cs=some x):∃ y:k.T,cs=[k.enc y]∧k.fits y:=by
 have int:∀ {ik:IntKind},P.underlying t=some (.int ik)→∃ n,cs=[.int ik n]∧(Lit.int ik n).wf=true:=by
  intro ik e
  obtain ⟨n,h1,_,h3⟩:=DataW.trod_int e h
  exact ⟨n,h1,h3⟩
 unfold scT at ht
 split at ht
 ·rename_i e
  obtain ⟨n,rfl,hw⟩:=int e
  have:=bounds_u8 hw
  refine ⟨UInt8.ofNat n.toNat,?_,trivial⟩
  simp only[EK.enc,List.cons.injEq,and_true,Value.int.injEq,true_and,UInt8.toNat_ofNat']
  omega
 ·rename_i e
  obtain ⟨n,rfl,hw⟩:=int e
  have:=bounds_u16 hw
  refine ⟨UInt16.ofNat n.toNat,?_,trivial⟩
  simp only[EK.enc,List.cons.injEq,and_true,Value.int.injEq,true_and,UInt16.toNat_ofNat']
  omega
 ·rename_i e
  obtain ⟨n,rfl,hw⟩:=int e
  have:=bounds_u32 hw
  refine ⟨UInt32.ofNat n.toNat,?_,trivial⟩
  simp only[EK.enc,List.cons.injEq,and_true,Value.int.injEq,true_and,UInt32.toNat_ofNat']
  omega
 ·rename_i e
  obtain ⟨n,rfl,hw⟩:=int e
  have:=bounds_u64 hw
  refine ⟨UInt64.ofNat n.toNat,?_,trivial⟩
  simp only[EK.enc,List.cons.injEq,and_true,Value.int.injEq,true_and,UInt64.toNat_ofNat']
  omega
 ·rename_i e
  obtain ⟨n,rfl,hw⟩:=int e
  have:=bounds_i64 hw
  exact ⟨n,rfl,by show -9223372036854775808≤n∧n < 9223372036854775808; omega⟩
 ·rename_i e
  obtain ⟨b,rfl,_⟩:=DataW.trod_bool e h
  exact ⟨b,rfl,trivial⟩
 ·cases ht
theorem zFH {S:Nat→Prop} {hp:Array Obj} {Q:PV→Prop} {sz:Nat}:∀ {n:Nat} {cs:List Value},cs.length=n*sz→(∀ i,i < n→∃ y,Q y∧RepPV S hp y ((cs.drop (i*sz)).take sz)) →
  ∃ ys:List PV,ys.length=n∧(∀ y ∈ ys,Q y∧y.size=sz)∧RepL S hp ys cs
 | 0,cs,hl,_=>by
  have:cs=[]:=List.length_eq_zero_iff.1 (by rw[hl,Nat.zero_mul])
  subst this
  exact ⟨[],rfl,by simp,.nil⟩
 | n+1,cs,hl,h=>by
  rw[Nat.add_mul,Nat.one_mul]at hl
  obtain ⟨y,hq,hy⟩:=h 0 (by omega)
  simp only[Nat.zero_mul,List.drop_zero]at hy
  obtain ⟨ys,h1,h2,h3⟩:=zFH (n:=n) (cs:=cs.drop sz) (by rw[List.length_drop,hl,Nat.add_sub_cancel]) (fun i hi=>by
   obtain ⟨z,hz,hr⟩:=h (i+1) (by omega)
   refine ⟨z,hz,?_⟩
   rw[List.drop_drop]
   rw[show sz+i*sz=(i+1)*sz by rw[Nat.add_mul,Nat.one_mul,Nat.add_comm]]
   exact hr)
  refine ⟨y :: ys,by simp[h1],?_,?_⟩
  ·intro z hz
   rcases List.mem_cons.1 hz with rfl | hz
   ·refine ⟨hq,?_⟩
    have:=hy.size
    rw[List.length_take,hl]at this
    omega
   ·exact h2 z hz
  ·have:=RepL.cons hy h3
   rwa [List.take_append_drop]at this
theorem scs {k:EK} {Q:k.T→Prop}:∀ {n:Nat} {cs:List Value},cs.length=n→(∀ i,i < n→∃ y:k.T,Q y∧(cs.drop i).take 1=[k.enc y])→∃ ys:List k.T,ys.length=n∧(∀ y ∈ ys,Q y)∧cs=ys.map k.enc
 | 0,cs,hl,_=>by
  have:cs=[]:=List.length_eq_zero_iff.1 hl
  subst this
  exact ⟨[],rfl,by simp,rfl⟩
 | n+1,[],hl,h=>by simp at hl
 | n+1,c :: cs,hl,h=>by
  obtain ⟨y,hq,hy⟩:=h 0 (by omega)
  obtain ⟨ys,h1,h2,h3⟩:=scs (n:=n) (cs:=cs) (by simpa using hl) (fun i hi=>by
   obtain ⟨z,hz,hr⟩:=h (i+1) (by omega)
   exact ⟨z,hz,by simpa using hr⟩)
  simp at hy
  refine ⟨y :: ys,by simp[h1],?_,by rw[h3,hy]; rfl⟩
  intro z hz
  rcases List.mem_cons.1 hz with rfl | hz
  ·exact hq
  ·exact h2 z hz
theorem zDC {a:Addr} {n sz:Nat} {Q:List Value→Prop} (hn:0 < n) (hz:0 < sz) (h:∀ i,i < n→∃ v,w.cells? 0 (a.add (i*sz)) sz=some v∧Q v) :
  ∃ vs,vs.length=n*sz∧(∀ i,i < n→Q ((vs.drop (i*sz)).take sz))∧a.spot=none∧a.block < w.heap.size∧CellsAt w.heap a.block a.off vs:=by
 have cell:∀ i,i < n→∀ v,w.cells? 0 (a.add (i*sz)) sz=some v→v.length=sz∧∀ j,j < sz→w.cell? ((a.add (i*sz)).add j)=v[j]?:=by
  intro i hi v hv
  simp only[World.cells?,Nat.zero_le,if_true]at hv
  refine ⟨by simpa using mapM_some_length hv,fun j hj=>mapM_some_get hv j j (by simp[hj])⟩
 obtain ⟨v0,e0,_⟩:=h 0 hn
 obtain ⟨l0,c0⟩:=cell 0 hn v0 e0
 have c00:=c0 0 hz
 rw[Nat.zero_mul]at c00
 have ha:(a.add 0).add 0=a:=by simp[Addr.add]
 rw[ha]at c00
 have hv0:v0[0]?=some v0[0]:=by simp
 rw[hv0]at c00
 unfold World.cell? at c00
 split at c00
 ·rename_i c T fz hb
  split at c00
  ·cases c00
  ·rename_i hs
   have hs:a.spot=none:=by simpa using hs
   have hadd:∀ m,a.add m=⟨a.block,a.off+m,none⟩:=by
    intro m
    unfold Addr.add
    split
    ·rename_i e; subst e; cases a; simp_all
    ·rfl
   have hadd2:∀ m j,(a.add m).add j=⟨a.block,a.off+m+j,none⟩:=by
    intro m j
    rw[hadd]
    unfold Addr.add
    split
    ·rename_i e; subst e; rfl
    ·rfl
   have hcell:∀ i,i < n→∀ j,j < sz→∃ u,c[a.off+i*sz+j]?=some u:=by
    intro i hi j hj
    obtain ⟨v,e,_⟩:=h i hi
    obtain ⟨l,q⟩:=cell i hi v e
    have:=q j hj
    rw[hadd2]at this
    simp only[World.cell?,hb]at this
    exact ⟨v[j],by simpa [l,hj] using this⟩
   refine ⟨(List.range (n*sz)).map fun j=>(c[a.off+j]?).getD default,by simp,?_,hs,(Array.getElem?_eq_some_iff.1 hb).1,c,T,fz,hb,?_⟩
   ·intro i hi
    obtain ⟨v,e,hq⟩:=h i hi
    obtain ⟨l,q⟩:=cell i hi v e
    have hle:i*sz+sz≤n*sz:=by
     have:=Nat.mul_le_mul_right sz (show i+1≤n by omega)
     rwa [Nat.add_mul,Nat.one_mul]at this
    have:(((List.range (n*sz)).map fun j=>(c[a.off+j]?).getD default).drop (i*sz)).take sz=v:=by
     apply List.ext_getElem
     ·simp[l]; omega
     ·intro j h1 h2
      rw[l]at h2
      have hq:=q j h2
      rw[hadd2]at hq
      simp only[World.cell?,hb]at hq
      simp only[List.getElem_take,List.getElem_drop,List.getElem_map,List.getElem_range]
      have:c[a.off+(i*sz+j)]?=some v[j]:=by
       rw[←Nat.add_assoc]
       simpa [l,h2] using hq
      rw[this]; rfl
    rw[this]; exact hq
   ·intro j u hu
    simp only[List.getElem?_map,Option.map_eq_some_iff]at hu
    obtain ⟨j',hj',rfl⟩:=hu
    have hj:j'=j∧j < n*sz:=by
     obtain ⟨h1,h2⟩:=List.getElem?_eq_some_iff.1 hj'
     simp only[List.length_range]at h1
     simp only[List.getElem_range]at h2
     exact ⟨h2.symm,h1⟩
    obtain ⟨rfl,hj⟩:=hj
    obtain ⟨u,hu⟩:=hcell (j' / sz) ((Nat.div_lt_iff_lt_mul hz).2 hj) (j' % sz) (Nat.mod_lt _ hz)
    have:a.off+j' / sz*sz+j' % sz=a.off+j':=by
     have:=Nat.div_add_mod j' sz
     rw[Nat.mul_comm]at this
     omega
    rw[this]at hu
    rw[hu]; rfl
 ·cases c00
theorem zCw {H:Type} {P:Program} {e:TypeId}:∀ {ds:List (DataW H)} {d:DataW H},d ∈ ds→∀ n ∈ d.weights P e,n ∈ DataW.weightsAll P e ds
 | d0 :: ds,d,h,n,hn=>by
  simp only[DataW.weightsAll,List.mem_append]
  rcases List.mem_cons.1 h with rfl | h
  ·exact .inl hn
  ·exact .inr (zCw h n hn)
theorem zDG:reachBytes=140737488351232:=rfl
variable {S:Nat→Prop}
mutual
theorem zx2 (hS:∀ b,b < w.heap.size→S b):∀ (s:Sh) {t:TypeId} {cs:List Value} {fuel:Nat} {x:DataW H × List MemPlace},s.okT P t=true→DataW.trod enc P w 0 (fun _=>true) held fuel t cs=some x →
  (∀ n ∈ x.1.weights P t,n≤reachBytes)→∃ y,Fit s y∧RepPV S w.heap y cs
 | .sc k,t,cs,fuel,x,ht,h,_=>by
  obtain ⟨y,rfl,hf⟩:=zCi ht h
  exact ⟨_,⟨y,rfl,hf⟩,.sc k y⟩
 | .arr k n,t,cs,fuel,x,ht,h,hw=>by
  simp only[Sh.okT]at ht
  split at ht
  ·rename_i m e hu
   simp only[Bool.and_eq_true]at ht
   obtain ⟨⟨⟨t1,t2⟩,t3⟩,t4⟩:=ht
   obtain ⟨xs,q,_,_,hl,hxl,hx⟩:=DataW.trod_array hu h
   have t1:=nb t1; have t2:=nb t2; have t3:=nb t3
   subst t1
   rw[t3]at hl
   rw[t2]at hx
   obtain ⟨ys,y1,y2,y3⟩:=scs (k:=k) (Q:=k.fits) hl (fun i hi=>by
    have:=hx i hi
    rw[show xs[i]?=some xs[i] by simp[hxl,hi]]at this
    rw[Nat.mul_one]at this
    obtain ⟨y,e,hf⟩:=zCi t4 this
    exact ⟨y,hf,e⟩)
   refine ⟨.arr k m ⟨ys.toArray,by simp[y1]⟩,⟨_,rfl,by simpa using y2⟩,?_⟩
   have:=RepPV.arr (S:=S) (h:=w.heap) k m ⟨ys.toArray,by simp[y1]⟩
   rw[y3]
   simpa using this
  ·cases ht
 | .st ss,t,cs,fuel,x,ht,h,hw=>by
  simp only[Sh.okT]at ht
  split at ht
  ·rename_i fs hu
   simp only[Bool.and_eq_true]at ht
   obtain ⟨t1,t2⟩:=ht
   obtain ⟨xs,q,_,hx0,hl,hxl,hx⟩:=DataW.trod_struct hu h
   rw[nb t1]at hl
   obtain ⟨ys,y1,y2⟩:=zDB hS ss (fs:=fs.toList) (o:=0) (cs:=cs) (xs:=xs) (m:=q) t2 (by simpa using hl) (by simpa using hxl) (fun i f hf=>by
    have:=hx i f (by simpa using hf)
    simpa using this) (by
    intro n hn
    apply hw
    rw[hx0]
    simp only[DataW.weights,hu]
    exact hn)
   rw[List.drop_zero]at y2
   exact ⟨.st ys,⟨_,rfl,y1⟩,.st y2⟩
  ·cases ht
 | .ar n sz s,t,cs,fuel,x,ht,h,hw=>by
  simp only[Sh.okT]at ht
  split at ht
  ·rename_i m e hu
   simp only[Bool.and_eq_true]at ht
   obtain ⟨⟨⟨⟨t1,t2⟩,t3⟩,t4⟩,t5⟩:=ht
   obtain ⟨xs,q,_,hx0,hl,hxl,hx⟩:=DataW.trod_array hu h
   have t1:=nb t1; have t2:=nb t2; have t3:=nb t3
   subst t1
   rw[t3]at hl
   rw[t2]at hx
   obtain ⟨ys,y1,y2,y3⟩:=zFH (S:=S) (hp:=w.heap) (Q:=Fit s) hl (fun i hi=>by
    have:=hx i hi
    rw[show xs[i]?=some xs[i] by simp[hxl,hi]]at this
    exact zx2 hS s t5 this (fun n hn=>hw n (by
     rw[hx0]
     simp only[DataW.weights,hu]
     exact zCw (List.mem_map.2 ⟨_,List.getElem_mem _,rfl⟩) n hn)))
   exact ⟨.ar sz ys,⟨ys,rfl,y1,fun y hy=>(y2 y hy).1⟩,.ar (fun y hy=>(y2 y hy).2) y3⟩
  ·cases ht
 | .sl k,t,cs,fuel,x,ht,h,hw=>by
  simp only[Sh.okT]at ht
  split at ht
  ·rename_i e hu
   simp only[Bool.and_eq_true]at ht
   obtain ⟨⟨t1,t2⟩,t3⟩:=ht
   have t1:=nb t1; have t2:=nb t2
   rcases DataW.trod_slice hu h with ⟨rfl,_⟩ | ⟨a,len,cap,elems,rest,q,_,rfl,hx0,_,hlc,_,hel,hx,_,_⟩
   ·exact ⟨.sl k [],⟨[],rfl,by simp,by simp⟩,.sl (Nat.le_refl _) (.inl rfl)⟩
   ·rw[t1]at hx
    have hreach:len*k.bytes≤140737488351232:=by
     have:=hw ((elems.length+rest.length)*P.bytesOf e) (by rw[hx0]; simp[DataW.weights,hu])
     rw[t2,zDG,hel]at this
     exact Nat.le_trans (Nat.mul_le_mul_right _ (Nat.le_add_right _ _)) this
    by_cases h0:len=0
    ·subst h0
     exact ⟨.sl k [],⟨[],rfl,by simp,by simp⟩,.sl (xs:=[]) (Nat.zero_le _) (.inl rfl)⟩
    ·obtain ⟨vs,v1,v2,v3,v4,v5⟩:=zDC (w:=w) (a:=a) (n:=len) (sz:=1) (Q:=fun v=>∃ y:k.T,k.fits y∧v=[k.enc y]) (by omega) (by omega) (fun i hi=>by
      have:=hx i hi
      rw[show elems[i]?=some elems[i] by simp[hel,hi]]at this
      obtain ⟨v,g1,g2⟩:=Option.bind_eq_some_iff.1 this
      obtain ⟨y,e,hf⟩:=zCi t3 g2
      exact ⟨v,g1,y,hf,e⟩)
     rw[Nat.mul_one]at v1
     obtain ⟨ys,y1,y2,y3⟩:=scs (k:=k) (Q:=k.fits) v1 (fun i hi=>by
      have:=v2 i hi
      rwa [Nat.mul_one]at this)
     subst y3
     subst y1
     exact ⟨.sl k ys,⟨ys,rfl,y2,hreach⟩,.sl hlc (.inr ⟨a.block,a.off,by cases a; simp_all,hS _ v4,v5⟩)⟩
  ·cases ht
 | .sp sz s,t,cs,fuel,x,ht,h,hw=>by
  simp only[Sh.okT]at ht
  split at ht
  ·rename_i e hu
   simp only[Bool.and_eq_true]at ht
   obtain ⟨⟨⟨⟨t1,t2⟩,t3⟩,t4⟩,t5⟩:=ht
   have t1:=nb t1
   have t2:=Nat.le_of_ble_eq_true t2
   have t3:=Nat.le_of_ble_eq_true t3
   rcases DataW.trod_slice hu h with ⟨rfl,_⟩ | ⟨a,len,cap,elems,rest,q,_,rfl,hx0,_,hlc,_,hel,hx,_,_⟩
   ·exact ⟨.sp sz [],⟨[],rfl,by simp,by simp⟩,.sp (Nat.le_refl _) (by simp) .nil (.inl rfl)⟩
   ·rw[t1]at hx
    have hreach:len≤140737488351232:=by
     have:=hw ((elems.length+rest.length)*P.bytesOf e) (by rw[hx0]; simp[DataW.weights,hu])
     rw[zDG,hel]at this
     have h2:len*1≤(len+rest.length)*P.bytesOf e:=Nat.mul_le_mul (Nat.le_add_right _ _) t3
     omega
    by_cases h0:len=0
    ·subst h0
     exact ⟨.sp sz [],⟨[],rfl,by simp,by simp⟩,.sp (xs:=[]) (Nat.zero_le _) (by simp) .nil (.inl rfl)⟩
    ·obtain ⟨vs,v1,v2,v3,v4,v5⟩:=zDC (w:=w) (a:=a) (n:=len) (sz:=sz) (Q:=fun v=>∃ y,Fit s y∧RepPV S w.heap y v) (by omega) t2 (fun i hi=>by
      have:=hx i hi
      rw[show elems[i]?=some elems[i] by simp[hel,hi]]at this
      obtain ⟨v,g1,g2⟩:=Option.bind_eq_some_iff.1 this
      exact ⟨v,g1,zx2 hS s t5 g2 (fun n hn=>hw n (by
       rw[hx0]
       simp only[DataW.weights,hu]
       exact List.mem_cons_of_mem _ (List.mem_append_left _ (zCw (List.mem_map.2 ⟨_,List.getElem_mem _,rfl⟩) n hn))))⟩)
     obtain ⟨ys,y1,y2,y3⟩:=zFH (S:=S) (hp:=w.heap) (Q:=Fit s) v1 v2
     subst y1
     exact ⟨.sp sz ys,⟨ys,rfl,fun y hy=>(y2 y hy).1,hreach⟩,.sp hlc (fun y hy=>(y2 y hy).2) y3 (.inr ⟨a.block,a.off,by cases a; simp_all,hS _ v4,v5⟩)⟩
  ·cases ht
theorem zDB (hS:∀ b,b < w.heap.size→S b):∀ (ss:List Sh) {fs:List Field} {o:Nat} {cs:List Value} {xs:List (DataW H × List MemPlace)} {m:Nat},Sh.okF P ss fs o=true→cs.length=o+Sh.sizeL ss→xs.length=fs.length →
  (∀ (i:Nat) (f:Field),fs[i]?=some f→DataW.trod enc P w 0 (fun _=>true) held m f.type ((cs.drop f.offset).take (P.cellsOf f.type))=xs[i]?) →
  (∀ n ∈ DataW.weightsEach P (fs.map (·.type)) (xs.map (·.1)),n≤reachBytes)→∃ ys,FitL ss ys∧RepL S w.heap ys (cs.drop o)
 | [],[],o,cs,xs,m,_,hl,_,_,_=>by
  refine ⟨[],rfl,?_⟩
  rw[List.drop_eq_nil_of_le (by rw[hl]; simp[Sh.sizeL])]
  exact .nil
 | s :: ss,[],o,cs,xs,m,ht,_,_,_,_=>by simp[Sh.okF]at ht
 | [],f :: fs,o,cs,xs,m,ht,_,_,_,_=>by simp[Sh.okF]at ht
 | s :: ss,f :: fs,o,cs,[],m,ht,hl,hxl,hx,hw=>by simp at hxl
 | s :: ss,f :: fs,o,cs,x0 :: xs,m,ht,hl,hxl,hx,hw=>by
  simp only[Sh.okF,Bool.and_eq_true]at ht
  obtain ⟨⟨⟨t1,t2⟩,t3⟩,t4⟩:=ht
  have t1:=nb t1; have t2:=nb t2
  simp only[Sh.sizeL]at hl
  have h0:=hx 0 f rfl
  rw[t1,t2]at h0
  obtain ⟨y,hf,hy⟩:=zx2 hS s t3 h0 (fun n hn=>hw n (by simp only[List.map_cons,DataW.weightsEach,List.mem_append]; exact .inl hn))
  obtain ⟨ys,h1,h2⟩:=zDB hS ss (fs:=fs) (o:=o+s.size) (cs:=cs) (xs:=xs) (m:=m) t4 (by omega) (by simpa using hxl) (fun i g hg=>hx (i+1) g hg)
   (fun n hn=>hw n (by simp only[List.map_cons,DataW.weightsEach,List.mem_append]; exact .inr hn))
  refine ⟨y :: ys,⟨y,ys,rfl,hf,h1⟩,?_⟩
  have:=RepL.cons hy h2
  rwa [←List.drop_drop,List.take_append_drop]at this
end
theorem zHP (hS:∀ b,b < w.heap.size→S b) {β:Nat→Value} {L:Nat→Option Blk} {s:Sh} {t:TypeId} {v:Value} {d:DataW H} {p:List MemPlace} {b0:Nat} (hs:s.okT P t=true) (hv:Value.okWide P w .any b0 t v)
  (h:DataW.Trod enc P w 0 (fun _=>true) held t v d p) (hw:∀ n ∈ d.weights P t,n≤reachBytes):∃ y,Fit s y∧RepA β S w.heap L (.pv y) v:=by
 obtain ⟨fuel,h⟩:=h
 obtain ⟨y,hf,hy⟩:=zx2 hS s hs h hw
 refine ⟨y,hf,?_⟩
 have hr:=RepA.pv (β:=β) (L:=L) hy
 have:pack y.isAgg v.cells.toList=v:=by
  rw[hf.agg]
  have sc:∀ {ik:IntKind},P.underlying t=some (.int ik)→pack false v.cells.toList=v:=by
   intro ik e
   obtain ⟨n,rfl⟩:=okWide_int e hv
   rfl
  have sl:∀ {e:TypeId},P.underlying t=some (.slice e)→pack false v.cells.toList=v:=by
   intro e he
   obtain ⟨a,len,cap,rfl⟩:=okWide_slice he hv
   rfl
  have ar:∀ {m:Nat} {e:TypeId},P.underlying t=some (.array m e)→pack true v.cells.toList=v:=by
   intro m e he
   simp only[Value.okWide,he]at hv
   obtain ⟨c,rfl,_⟩:=hv
   simp[pack,Value.cells]
  cases s with
  | sc k =>
   simp only[Sh.okT,scT]at hs
   split at hs
   ·exact sc (by assumption)
   ·exact sc (by assumption)
   ·exact sc (by assumption)
   ·exact sc (by assumption)
   ·exact sc (by assumption)
   ·obtain ⟨b,rfl⟩:=okWide_bool (by assumption) hv
    rfl
   ·cases hs
  | arr k n =>
   simp only[Sh.okT]at hs
   split at hs
   ·exact ar (by assumption)
   ·cases hs
  | st ss =>
   simp only[Sh.okT]at hs
   split at hs
   ·obtain ⟨c,rfl,_⟩:=okWide_struct (by assumption) hv
    simp[pack,Value.cells,Sh.agg]
   ·cases hs
  | ar n sz s =>
   simp only[Sh.okT]at hs
   split at hs
   ·exact ar (by assumption)
   ·cases hs
  | sl k =>
   simp only[Sh.okT]at hs
   split at hs
   ·exact sl (by assumption)
   ·cases hs
  | sp sz s =>
   simp only[Sh.okT]at hs
   split at hs
   ·exact sl (by assumption)
   ·cases hs
 rwa [this]at hr
end
def zv9 (P:Program):List Sh→List TypeId→Bool
 | [],[]=>true
 | s :: ss,t :: ts=>s.okT P t && zv9 P ss ts
 | _,_=>false
theorem zAL {H:Type} {enc:TypeId × Value→H} {P:Program} {w:World} {held:Bool} {S:Nat→Prop} (hS:∀ b,b < w.heap.size→S b) {β:Nat→Value} {L:Nat→Option Blk} {b0:Nat}:∀ (ss:List Sh) {ts:List TypeId} {vs:List Value} {ds:List (DataW H)} {p:List MemPlace},zv9 P ss ts=true →
  (∀ (j:Nat) t v,ts[j]?=some t→vs[j]?=some v→Value.okWide P w .any b0 t v)→DataW.TrodAll enc P w 0 (fun _=>true) held ts vs ds p→(∀ n ∈ DataW.weightsEach P ts ds,n≤reachBytes) →
  ∃ ys,FitL ss ys∧RepAs β S w.heap L (ys.map .pv) vs∧ds.length=ss.length
 | [],[],vs,ds,p,_,_,h,_=>by
  cases vs with
  | nil =>
   cases ds with
   | nil=>exact ⟨[],rfl,.nil,rfl⟩
   | cons d ds=>exact h.elim
  | cons v vs=>cases ds<;>exact h.elim
 | [],_ :: _,_,_,_,ht,_,_,_=>by simp[zv9]at ht
 | _ :: _,[],_,_,_,ht,_,_,_=>by simp[zv9]at ht
 | s :: ss,t :: ts,[],ds,p,_,_,h,_=>by cases ds<;>exact h.elim
 | s :: ss,t :: ts,v :: vs,[],p,_,_,h,_=>h.elim
 | s :: ss,t :: ts,v :: vs,d :: ds,p,ht,hv,h,hw=>by
  simp only[zv9,Bool.and_eq_true]at ht
  obtain ⟨p1,p2,h1,h2,_⟩:=h
  obtain ⟨y,q1,q2⟩:=zHP (β:=β) (L:=L) hS ht.1 (hv 0 t v rfl rfl) h1 (fun n hn=>hw n (by simp only[DataW.weightsEach,List.mem_append]; exact .inl hn))
  obtain ⟨ys,r1,r2,r3⟩:=zAL hS ss ht.2 (fun j t v h1 h2=>hv (j+1) t v h1 h2) h2 (fun n hn=>hw n (by simp only[DataW.weightsEach,List.mem_append]; exact .inr hn))
  exact ⟨y :: ys,⟨y,ys,rfl,q1,r1⟩,.cons q2 r2,by simp[r3]⟩
end Go.Proofs.YtnolgfdjcipmmaaDoor.M
namespace Go.Proofs.YtnolgfdjcipmmaaDoor.M
open Go Go.RowKit Go.ChangeShapes Go.WideShapes
section
variable {H:Type} {enc:TypeId × Value→H} {P:Program}
theorem zoG (hl:laidOutB P=true) {W W':World} (hb:Below W.heap.size W W'):∀ {ts:List TypeId} {vs:List Value} {ds:List (DataW H)} {ps:List MemPlace},
  ts.all (fun t=>P.readableRec t && Nat.blt t P.types.size)=true→DataW.TrodAll enc P W 0 (fun _=>true) true ts vs ds ps→DataW.TrodAll enc P W' 0 (fun b=>decide (b < W.heap.size)) true ts vs ds ps
 | [],[],[],_,_,h=>h
 | [],[],_ :: _,_,_,h=>h.elim
 | [],_ :: _,[],_,_,h=>h.elim
 | [],_ :: _,_ :: _,_,_,h=>h.elim
 | _ :: _,[],[],_,_,h=>h.elim
 | _ :: _,[],_ :: _,_,_,h=>h.elim
 | _ :: _,_ :: _,[],_,_,h=>h.elim
 | t :: ts,v :: vs,d :: ds,ps,ht,h=>by
  have hlt:=h.lt
  obtain ⟨p,q,h1,h2,rfl⟩:=h
  simp only[List.all_cons,Bool.and_eq_true]at ht
  exact ⟨p,q,Below.trod hl ht.1.1 (Nat.le_of_ble_eq_true ht.1.2) h1 hb (fun x hx=>hlt x (by simp[hx])),zoG hl hb ht.2 h2,rfl⟩
theorem zFY {G:Nat→Option PV} {f:FuncId} {c:Ans} (hF:FnOK P G f (unW c)) {W:World} {args:Array Value} {ys:List PV} {p:Cn} {out:CallOut} (hc:c (ys.map .pv) []=some (p,out)) (hp:p.h) (hv:out.val=.pv (.sc .b true))
  (hG:zln G (fun b=>b < W.heap.size) W.heap) (hr:RepAs (fun _=>undef) (fun b=>b < W.heap.size) W.heap (lk []) (ys.map .pv) args.toList):Calls P f args W fun e W'=>e=.returned (.bool true)∧Below W.heap.size W W':=by
 have hs:unW c (ys.map .pv) []=some out:=by
  unfold unW
  rw[hc,Option.bind_some,if_pos hp]
 have M:MS (fun _=>undef) (fun b=>b < W.heap.size) W.heap W.heap.size (fun _=>False) (lk []):=by
  refine ⟨?_,?_,?_,fun k hk=>hk⟩
  ·intro n b h; cases h
  ·intro n b h; cases h
  ·intro n m _ h; cases h
 refine (hF W (fun _=>undef) (fun b=>b < W.heap.size) (fun _=>False) _ [] args out hs hG M hr).mono fun e W' hpost=>?_
 obtain ⟨v,β',S',rfl,_,_,_,_,hval,_⟩:=hpost.ends
 rw[hv]at hval
 have:=hval.sc_inv
 subst this
 exact ⟨rfl,hpost.os,hpost.tape,hpost.output,hpost.size,fun k hk=>hpost.keep k hk (fun h=>h)⟩
theorem law_contract {G:Nat→Option PV} {f:FuncId} {fn:Func} {s:ChangeSpec} {ss:List Sh} {c:Ans} {tb:TypeId} {apart fresh handsOn:Bool} (hs:s.vars=[])
  (hspec:∀ ds:List (DataW H),ds.length=ss.length→s.fn H ds={ results:=[.lit (.bool true)],args:=ds,vars:=[] })
  (hl:laidOutB P=true) (hrr:fn.params.toList.all (fun t=>P.readableRec t && Nat.blt t P.types.size)=true) (hres:fn.resultTypes=#[tb]) (hb:P.underlying tb=some .bool)
  (hok:zv9 P ss fn.params.toList=true) (hF:FnOK P G f (unW c)) (hlaw:∀ ys,FitL ss ys→∃ p out,c (ys.map .pv) []=some (p,out)∧p.h∧out.val=.pv (.sc .b true))
  {W:World} {b0:Nat} {args:Array Value} {ds gs:List (DataW H)} {before:List MemPlace}
  (hval:∀ (j:Nat) t v,fn.params[j]?=some t→args[j]?=some v→Value.okWide P W .any b0 t v) (hW:DataW.Whole enc P fn.params.toList s.vars apart W args.toList ds gs before)
  (hsz:(DataW.weightsEach P (fn.params.toList++s.plain.varTypes P) (ds++gs)).all (·≤reachBytes)=true) (hG:zln G (fun b=>b < W.heap.size) W.heap) :
  Calls P f args W fun e W'=>∃ v,e=.returned v∧s.post enc P fn apart fresh handsOn false W args v W':=by
 have hW':=hW
 obtain ⟨pa,q,hA,hV,rfl,_,_⟩:=hW
 rw[hs]at hV
 have hgs:gs=[]:=by
  cases gs with
  | nil=>rfl
  | cons g gs=>exact hV.elim
 subst hgs
 have hvt:s.plain.varTypes P=[]:=by
  show DataSpec.varTypes P { name:=s.name,vars:=s.vars,fn:=fun _=>[] }=[]
  rw[hs]; rfl
 rw[hvt,List.append_nil,List.append_nil]at hsz
 obtain ⟨ys,h1,h2,h3⟩:=zAL (S:=fun b=>b < W.heap.size) (β:=fun _=>undef) (L:=lk []) (fun _ h=>h) ss hok (fun j t v ht hv=>hval j t v (by simpa using ht) (by simpa using hv)) hA (fun n hn=>of_decide_eq_true (List.all_eq_true.1 hsz n hn))
 obtain ⟨p,out,q1,q2,q3⟩:=hlaw ys h1
 refine (zFY hF q1 q2 q3 hG h2).mono fun e W' ⟨he,hbl⟩=>?_
 subst he
 have hsp:=hspec (ds++[]) (by simpa using h3)
 have hA':=zoG hl hbl hrr hA
 refine ⟨_,rfl,ds,[],_,[],pa,[],hW',?_,?_,?_,hbl.frame _,fun h=>by cases h⟩
 ·rw[hsp,hres]
  exact trodAll_mk1 (shut_bool hb true)
 ·rw[hsp,List.append_nil]
  exact hA'
 ·rw[hsp,hs]
  rfl
def EK.lit:(k:EK)→k.T→Lit
 | .u8,x=>.int .u8 (x:UInt8).toNat | .u16,x=>.int .u16 (x:UInt16).toNat | .u32,x=>.int .u32 (x:UInt32).toNat
 | .u64,x=>.int .u64 (x:UInt64).toNat | .i,x=>.int .i64 x | .b,x=>.bool x
theorem zHH {k:EK} {w:World} {base:Nat} {sp:Nat→Bool} {held:Bool} {fuel:Nat} {t:TypeId} {cs:List Value} {y:k.T} {ps:List MemPlace} (ht:scT P k t=true) (h:DataW.trod enc P w base sp held fuel t cs=some (.lit (k.lit y),ps)):cs=[k.enc y]:=by
 unfold scT at ht
 split at ht
 case h_7=>cases ht
 case h_6 =>
  obtain ⟨b,rfl,e⟩:=DataW.trod_bool (by assumption) h
  simp only[EK.lit,Prod.mk.injEq,DataW.lit.injEq,Lit.bool.injEq]at e
  rw[←e.1]; rfl
 all_goals
  obtain ⟨n,rfl,e,_⟩:=DataW.trod_int (by assumption) h
  simp only[EK.lit,Prod.mk.injEq,DataW.lit.injEq,Lit.int.injEq,true_and]at e
  rw[←e.1]; rfl
theorem zA9 {k:EK} {w:World} {base:Nat} {sp:Nat→Bool} {held:Bool} {fuel:Nat} {t:TypeId} (ht:scT P k t=true):∀ {cs:List Value} {ys:List k.T} {xs:List (DataW H × List MemPlace)},cs.length=ys.length→xs.map (·.1)=ys.map (fun y=>.lit (k.lit y)) →
  (∀ i,i < ys.length→DataW.trod enc P w base sp held fuel t ((cs.drop (i*1)).take 1)=xs[i]?)→cs=ys.map k.enc
 | [],[],_,_,_,_=>rfl
 | [],_ :: _,_,hl,_,_=>by simp at hl
 | _ :: _,[],_,hl,_,_=>by simp at hl
 | c :: cs,y :: ys,[],_,hx,_=>by simp at hx
 | c :: cs,y :: ys,(d,p) :: xs,hl,hx,h=>by
  simp only[List.map_cons,List.cons.injEq]at hx
  obtain ⟨rfl,hx⟩:=hx
  have h0:=h 0 (by simp)
  simp only[Nat.zero_mul,List.drop_zero,List.take_succ_cons,List.take_zero,List.getElem?_cons_zero]at h0
  have:=zHH ht h0
  simp only[List.cons.injEq,and_true]at this
  rw[this,List.map_cons,←zA9 ht (cs:=cs) (ys:=ys) (xs:=xs) (by simpa using hl) hx (fun i hi=>by
   have:=h (i+1) (by simpa using hi)
   simp only[Nat.mul_one]at this ⊢
   simpa using this)]
theorem zH6 {k:EK} {n:Nat} {v:Vector k.T n} {name:String} {g t:Nat} {d:DataW Unit} {laid:List (String × DataW Unit)} {W:World} {S:Nat→Prop} (hS:∀ b,b < W.heap.size→S b) (hm:laidMet P laid W) (hx:(name,d) ∈ laid) (hg:P.globalNamed name=some g) (ht:(P.globals[g]?).map (·.type)=some t)
  (hok:(Sh.arr k n).okT P t=true) (hd:d=.agg (v.toList.map fun y=>.lit (k.lit y))):S g∧∃ vs,RepPV S W.heap (.arr k n v) vs∧CellsAt W.heap g 0 vs:=by
 obtain ⟨ps,hv,_⟩:=hm
 have:∀ {l:List (String × DataW Unit)} {ps:List MemPlace},(name,d) ∈ l→DataW.LaidVars P W l ps→∃ g t cs fuel p,P.globalNamed name=some g∧(P.globals[g]?).map (·.type)=some t∧W.var? P name=some cs∧DataW.trod (fun _=>()) P W 0 (fun _=>true) false fuel t cs.toList=some (d,p):=by
  intro l
  induction l with
  | nil=>intro ps hx; cases hx
  | cons a l ih =>
   obtain ⟨n',d'⟩:=a
   intro ps hx h
   obtain ⟨g,t,cs,fuel,p,q,h1,h2,h3,h4,h5,_⟩:=h
   rcases List.mem_cons.1 hx with e | hx
   ·cases e
    exact ⟨g,t,cs,fuel,p,h1,h2,h3,h4⟩
   ·exact ih hx h5
 obtain ⟨g',t',cs,fuel,p,h1,h2,h3,h4⟩:=this hx hv
 obtain rfl:=Option.some.inj (hg.symm.trans h1)
 obtain rfl:=Option.some.inj (ht.symm.trans h2)
 have hcell:=h3
 simp only[World.var?,hg,Option.bind_some]at hcell
 split at hcell
 ·rename_i c T fz hb
  cases hcell
  simp only[Sh.okT]at hok
  split at hok
  ·rename_i m e hu
   simp only[Bool.and_eq_true]at hok
   obtain ⟨⟨⟨t1,t2⟩,t3⟩,t4⟩:=hok
   obtain ⟨xs,q,_,q1,q2,q3,q4⟩:=DataW.trod_array hu h4
   rw[nb t3]at q2
   have t1:=nb t1
   subst t1
   rw[nb t2]at q4
   subst hd
   simp only[Prod.mk.injEq,DataW.agg.injEq]at q1
   have e:=zA9 t4 (cs:=cs.toList) (ys:=v.toList) (xs:=xs) (by rw[q2]; simp) q1.1.symm (fun i hi=>q4 i (by simpa using hi))
   refine ⟨hS _ (Array.getElem?_eq_some_iff.1 hb).1,_,RepPV.arr k m v,cs,T,fz,hb,fun i u hu=>?_⟩
   rw[←e]at hu
   simpa using hu
  ·cases hok
 ·cases hcell
end
end Go.Proofs.YtnolgfdjcipmmaaDoor.M
namespace Go.Proofs.YtnolgfdjcipmmaaDoor.M
open Go
end Go.Proofs.YtnolgfdjcipmmaaDoor.M
namespace Go.Proofs.YtnolgfdjcipmmaaDoor.M
open Go
section
variable {ops:Array Oper} {Q:Exit→Act→World→Prop} {r:Option Nat} {n:Nat}
end
section
variable {k:Wk} {β:Nat→Value} {S:Nat→Prop} {e e':Nat→A} {L:Nat→Option Blk} {a:Act} {w:World}
end
theorem RepM.at {S:Nat→Prop} {h:Array Obj}:∀ {kv:List (PV × PV)} {es:List MapEntry},RepM S h kv es→∀ {e:MapEntry},e ∈ es→∃ p cs vs,p ∈ kv∧RepPV S h p.1 cs∧RepPV S h p.2 vs∧e.key=pack p.1.isAgg cs∧e.val=pack p.2.isAgg vs
 | _,_,.nil,e,he=>by cases he
 | _,_,.cons (k:=k) (v:=v) (cs:=cs) (vs:=vs) a b c d r,e,he=>by
  rcases List.mem_cons.1 he with rfl | he
  ·exact ⟨(k,v),cs,vs,by simp,a,b,c,d⟩
  ·obtain ⟨p,cs,vs,h1,h2⟩:=r.at he
   exact ⟨p,cs,vs,by simp[h1],h2⟩
end Go.Proofs.YtnolgfdjcipmmaaDoor.M
