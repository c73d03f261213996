/- Part of the proofs: a reckoning of code on values by names, shown sound against the model. No condition. -/
import Derived.Great.BuildSlice
import Derived.Laws.MakeOwn
import Derived.Laws.AppendOwn
import Derived.ChangeKeysEq
import Derived.Laws.Pointers
import Derived.Laws.CopyRow
import Derived.Laws.IdiomCopy
import Derived.Test.YtnolgfdjcipmmaaDoorLa
set_option linter.unusedVariables false
set_option linter.unusedSimpArgs false
set_option autoImplicit false
namespace Go.Proofs.YtnolgfdjcipmmaaDoor.M
open Go
def IntV (j:Option Int) (v:Option Value):Prop :=
 (j=none∧v=none)∨∃ n k,j=some n∧v=some (.int k n)
section
variable {P:Program} {w:World}
theorem zcO {k:IntKind} {n:Int} {y:Nat} {c:BoundsCode} (h0:0≤n) (h1:n≤y):(Instr.sliceBound (.int k n) y c).run P w=.ok n.toNat w:=by
 simp[Instr.sliceBound,asIntOf,h0,h1]
theorem zgP {len cp:Nat} {cap:Option Nat} (hc:∀ c,cap=some c→cp=c) (hle:len≤cp) {lo hi mx:Option Int} {l h:Nat} {m:Option Nat} (hb:zlY len cap lo hi mx=some (l,h,m))
  {lv hv mv:Option Value} (hl:IntV lo lv) (hh:IntV hi hv) (hm:IntV mx mv) (isSlice:Bool) :
  ∃ M,(Instr.sliceBounds isSlice len cp lv hv mv).run P w=.ok (l,h,M) w∧l≤h∧h≤M∧M≤cp∧(∀ c,m=some c→M=c)∧h≤cap.getD len∧(∀ c,m=some c→c≤cap.getD len):=by
 have top:cap.getD len≤cp:=by
  cases cap with
  | none=>exact hle
  | some c=>have:=hc c rfl; simp; omega
 unfold zlY at hb
 cases mx with
 | none =>
  obtain ⟨_,rfl⟩:(none:Option Int)=none∧mv=none:=by
   rcases hm with hm | ⟨_,_,hm,_⟩
   ·exact hm
   ·cases hm
  simp only at hb
  split at hb
  ·rename_i hq
   cases hb
   refine ⟨cp,?_,by omega,by omega,Nat.le_refl _,hc,by omega,fun c hc'=>by cases cap<;>simp at hc' ⊢; omega⟩
   rcases hl with ⟨rfl,rfl⟩ | ⟨n,k,rfl,rfl⟩<;>rcases hh with ⟨rfl,rfl⟩ | ⟨n',k',rfl,rfl⟩<;>simp only[Option.getD_none,Option.getD_some]at hq
   ·simp[Instr.sliceBounds]
   ·simp[Instr.sliceBounds,zcO (P:=P) (w:=w) (k:=k') (n:=n') (y:=cp) (by omega) (by omega)]
   ·have:=zcO (P:=P) (w:=w) (k:=k) (n:=n) (y:=len) (c:=.sliceB) (by omega) (by omega)
    simp[Instr.sliceBounds,this]
   ·have h2:=zcO (P:=P) (w:=w) (k:=k) (n:=n) (y:=n'.toNat) (c:=.sliceB) (by omega) (by omega)
    simp[Instr.sliceBounds,zcO (P:=P) (w:=w) (k:=k') (n:=n') (y:=cp) (by omega) (by omega),h2]
  ·cases hb
 | some mm =>
  obtain ⟨km,rfl⟩:∃ km,mv=some (.int km mm):=by
   rcases hm with ⟨hm,_⟩ | ⟨n,k,hm,e⟩
   ·cases hm
   ·cases hm; exact ⟨k,e⟩
  cases hi with
  | none=>simp at hb
  | some hh' =>
   obtain ⟨kh,rfl⟩:∃ kh,hv=some (.int kh hh'):=by
    rcases hh with ⟨hm,_⟩ | ⟨n,k,hm,e⟩
    ·cases hm
    ·cases hm; exact ⟨k,e⟩
   simp only at hb
   split at hb
   ·rename_i hq
    cases hb
    have q1:=zcO (P:=P) (w:=w) (k:=km) (n:=mm) (y:=cp) (c:=if isSlice then .slice3Acap else .slice3Alen) (by omega) (by omega)
    have q2:=zcO (P:=P) (w:=w) (k:=kh) (n:=hh') (y:=mm.toNat) (c:=.slice3B) (by omega) (by omega)
    refine ⟨mm.toNat,?_,by omega,by omega,by omega,fun c hc=>by cases hc; rfl,by omega,fun c hc=>by cases hc; omega⟩
    rcases hl with ⟨rfl,rfl⟩ | ⟨n,k,rfl,rfl⟩<;>simp only[Option.getD_none,Option.getD_some]at hq
    ·simp[Instr.sliceBounds,q1,q2]
    ·have q3:=zcO (P:=P) (w:=w) (k:=k) (n:=n) (y:=hh'.toNat) (c:=.slice3C) (by omega) (by omega)
     simp[Instr.sliceBounds,q1,q2,q3]
   ·cases hb
theorem zn8 {t e:TypeId} {N s b o:Nat} (hu:P.underlying t=some (.array N e)) (hs:szT P e=some s) {lv hv mv:Option Value} {l h M:Nat}
  (hb:(Instr.sliceBounds false N N lv hv mv).run P w=.ok (l,h,M) w) :
  (Instr.sliceAt t (.pointer (some ⟨b,o,none⟩)) lv hv mv).run P w=.ok (.slice (some (if M=l then ⟨b,o,none⟩else ⟨b,o+l*s,none⟩)) (h - l) (M - l)) w:=by
 simp only[Instr.sliceAt,Sem.run_bind,run_underlying hu,Result.andThen_ok,Instr.sureAddr,Sem.run_pure,hb,zde hs,zel]
theorem zhN {t e:TypeId} {len cap s:Nat} {a:Option Addr} (hu:P.underlying t=some (.slice e)) (hs:szT P e=some s) {lv hv mv:Option Value} {l h M:Nat}
  (hb:(Instr.sliceBounds true len cap lv hv mv).run P w=.ok (l,h,M) w) :
  (Instr.sliceAt t (.slice a len cap) lv hv mv).run P w=.ok (.slice (if M=l then a else a.map (·.add (l*s))) (h - l) (M - l)) w:=by
 simp only[Instr.sliceAt,Sem.run_bind,run_underlying hu,Result.andThen_ok,Instr.slice,hb,zde hs,Sem.run_pure]
end
section
variable {β:Nat→Value} {S:Nat→Prop} {h:Array Obj} {L:Nat→Option Blk} {P:Program} {w:World} {N0:Nat} {F:Nat→Prop}
theorem zu6 {k:EK} {xs:List k.T} {a:Option Addr} {cap l h' M s:Nat} (l1:xs.length≤cap) (l2:xs=[]∨∃ b off,a=some ⟨b,off,none⟩∧S b∧CellsAt h b off (xs.map k.enc))
  (hl:l≤h') (hh:h'≤xs.length) (hM:h'≤M) (hs:s=1) :
  RepPV S h (.sl k ((xs.drop l).take (h' - l))) [.slice (if M=l then a else a.map (·.add (l*s))) (h' - l) (M - l)]:=by
 have hlen:((xs.drop l).take (h' - l)).length=h' - l:=by simp; omega
 have:=RepPV.sl (S:=S) (h:=h) (k:=k) (xs:=(xs.drop l).take (h' - l)) (a:=if M=l then a else a.map (·.add (l*s))) (cap:=M - l) (by omega) ?_
 ·rwa [hlen]at this
 ·by_cases e:h'=l
  ·left; apply List.eq_nil_of_length_eq_zero; omega
  ·rcases l2 with rfl | ⟨b,off,rfl,s1,s2⟩
   ·simp at hh; omega
   ·right
    rw[if_neg (by omega)]
    refine ⟨b,off+l,by simp[zel,hs],s1,?_⟩
    obtain ⟨X,us,Y,f1,f2,f3⟩:=(RepRC.s (S:=S) (h:=h) k xs).sub l (h' - l) (by simp[RC.len]; omega)
    have:=s2.sub f1
    rw[f2]at this
    cases f3
    simpa [RC.sz] using this
theorem zFy {sz:Nat} {xs:List PV} {vs:List Value} {a:Option Addr} {cap l h' M:Nat} (l1:xs.length≤cap) (q1:∀ x ∈ xs,x.size=sz) (q2:RepL S h xs vs)
  (l2:xs=[]∨∃ b off,a=some ⟨b,off,none⟩∧S b∧CellsAt h b off vs) (hl:l≤h') (hh:h'≤xs.length) (hM:h'≤M) :
  RepPV S h (.sp sz ((xs.drop l).take (h' - l))) [.slice (if M=l then a else a.map (·.add (l*sz))) (h' - l) (M - l)]:=by
 have hlen:((xs.drop l).take (h' - l)).length=h' - l:=by simp; omega
 obtain ⟨X,us,Y,f1,f2,f3⟩:=(RepRC.p (S:=S) (h:=h) q1 q2).sub l (h' - l) (by simp[RC.len]; omega)
 cases f3 with
 | p g1 g2 =>
  have:=RepPV.sp (S:=S) (h:=h) (sz:=sz) (xs:=(xs.drop l).take (h' - l)) (a:=if M=l then a else a.map (·.add (l*sz))) (cap:=M - l) (by omega) g1 g2 ?_
  ·rwa [hlen]at this
  ·by_cases e:h'=l
   ·left; apply List.eq_nil_of_length_eq_zero; omega
   ·rcases l2 with rfl | ⟨b,off,rfl,s1,s2⟩
    ·simp at hh; omega
    ·right
     rw[if_neg (by omega)]
     refine ⟨b,off+l*sz,by simp[zel],s1,?_⟩
     have:=s2.sub f1
     rw[f2]at this
     simpa [RC.sz] using this
theorem zCP (M:MS β S w.heap N0 F L) {t:TypeId} {x r:A} {lo hi mx:Option Int} (hr:zfu P L t x lo hi mx=some r) {v:Value} (hx:RepA β S w.heap L x v)
  {lv hv mv:Option Value} (hl:IntV lo lv) (hh:IntV hi hv) (hm:IntV mx mv) :
  ∃ u,(Instr.sliceAt t v lv hv mv).run P w=.ok u w∧RepA β S w.heap L r u:=by
 simp only[zfu,Option.bind_eq_some_iff]at hr
 obtain ⟨e,he,s,hs,hr⟩:=hr
 obtain ⟨vs,rx,ev⟩:=hx
 split at hr
 ·rename_i n π
  simp only[Option.bind_eq_some_iff]at hr
  obtain ⟨blk,hL,hr⟩:=hr
  split at hr
  ·rename_i N e' N' sz hu hl'
   split at hr
   ·rename_i hc
    simp only[Bool.and_eq_true,nbeq]at hc
    obtain ⟨rfl,rfl⟩:=hc
    simp only[Option.map_eq_some_iff]at hr
    obtain ⟨⟨l,h',m⟩,hb,rfl⟩:=hr
    dsimp only
    have:e'=e:=by simp[zdj,hu]at he; exact he
    subst this
    cases rx with
    | p e1 e2 e3 =>
     rw[hL]at e1; cases e1
     rw[A.elems_len]at hl'
     simp only[Option.map_eq_some_iff,Prod.mk.injEq]at hl'
     obtain ⟨rc,h1,h2,h3⟩:=hl'
     obtain ⟨M',b1,b2,b3,b4,b5,b6,b7⟩:=zgP (P:=P) (w:=w) (len:=N) (cp:=N) (cap:=some N) (fun c hc=>by cases hc; rfl) (Nat.le_refl _) hb hl hh hm false
     rw[ev]
     refine ⟨_,zn8 hu hs b1,_,RepC.vw hL (Blk.okv_of_ok e2) (N:=N) (sz:=s) ?_ ?_ (by omega) ?_ ?_,rfl⟩
     ·rw[Blk.elems_len,Blk.elems_get e2 h1]; simp[h2,h3]
     ·simp at b6; omega
     ·intro c hc
      cases m with
      | none=>cases hc
      | some m' =>
       simp only[Option.map_some,Option.some.injEq]at hc
       have:=b5 m' rfl
       have:=b7 m' rfl
       simp at this
       omega
     ·by_cases e:M'=l
      ·left; omega
      ·right; exact ⟨_,_,e3,by rw[if_neg e]⟩
   ·cases hr
  ·cases hr
 ·rename_i k n v'
  split at hr
  ·rename_i N e' hu
   split at hr
   ·rename_i hc
    simp only[Bool.and_eq_true,nbeq]at hc
    obtain ⟨rfl,rfl⟩:=hc
    simp only[Option.map_eq_some_iff]at hr
    obtain ⟨⟨l,h',m⟩,hb,rfl⟩:=hr
    dsimp only
    have:e'=e:=by simp[zdj,hu]at he; exact he
    subst this
    cases rx with
    | rp s1 s2 s3 =>
     cases s3
     obtain ⟨M',b1,b2,b3,b4,b5,b6,b7⟩:=zgP (P:=P) (w:=w) (len:=N) (cp:=N) (cap:=some N) (fun c hc=>by cases hc; rfl) (Nat.le_refl _) hb hl hh hm false
     rw[ev]
     have hN:v'.toList.length=N:=by simp
     have:=zu6 (S:=S) (h:=w.heap) (k:=k) (xs:=v'.toList) (cap:=N) (l:=l) (h':=h') (M:=M') (s:=1) (by omega) (.inr ⟨_,_,rfl,s1,s2⟩) b2 (by simp at b6; omega) b3 rfl
     refine ⟨_,zn8 hu hs b1,RepA.pv1 ?_ rfl⟩
     simpa [zel,apply_ite] using this
   ·cases hr
  ·cases hr
 ·rename_i n
  simp only[Option.bind_eq_some_iff]at hr
  obtain ⟨blk,hL,hr⟩:=hr
  split at hr
  ·rename_i e' rc ex hu
   split at hr
   ·rename_i hc
    rw[nbeq]at hc
    subst hc
    simp only[Option.map_eq_some_iff]at hr
    obtain ⟨⟨l,h',m⟩,hb,rfl⟩:=hr
    dsimp only
    have:e'=e:=by simp[zdj,hu]at he; exact he
    subst this
    cases rx with
    | o e1 e2 =>
     obtain ⟨a,cap,g1,g2,g3,g4⟩:=M.blk n _ hL
     obtain ⟨M',b1,b2,b3,b4,b5,b6,b7⟩:=zgP (P:=P) (w:=w) (len:=rc.len) (cp:=cap) (cap:=bif ex then some rc.len else none)
      (fun c hc=>by cases ex<;>simp at hc; subst hc; exact g3 rfl) g2 hb hl hh hm true
     rw[ev,show pack (A.o n).isAgg [β n]=β n from rfl,g1]
     have htop:(bif ex then some rc.len else none:Option Nat).getD rc.len=rc.len:=by cases ex<;>rfl
     rw[htop]at b6 b7
     have off0:(Blk.row rc ex).off []=0:=by cases rc<;>rfl
     refine ⟨_,zhN hu hs b1,_,RepC.vw hL trivial (N:=rc.len) (sz:=rc.sz) rfl (by omega) (by omega) ?_ ?_,rfl⟩
     ·intro c hc
      cases m with
      | none=>cases hc
      | some m' =>
       simp only[Option.map_some,Option.some.injEq]at hc
       have:=b5 m' rfl
       have:=b7 m' rfl
       omega
     ·rcases g4 with g4 | ⟨b,o,cs,T,q1,q2,q3,X0,vs,Y0,q4,q5,q6⟩
      ·left; omega
      ·subst q1
       by_cases e:M'=l
       ·left; omega
       ·right; exact ⟨b,o,by rw[g1]; rfl,by rw[if_neg e,off0]; simp[zel]⟩
   ·cases hr
  ·cases hr
 ·rename_i n π off len cap
  simp only[Option.bind_eq_some_iff]at hr
  obtain ⟨blk,hL,hr⟩:=hr
  split at hr
  ·rename_i e' N sz hu hl'
   split at hr
   ·rename_i hc
    rw[nbeq]at hc
    subst hc
    simp only[Option.map_eq_some_iff]at hr
    obtain ⟨⟨l,h',m⟩,hb,rfl⟩:=hr
    dsimp only
    have:e'=e:=by simp[zdj,hu]at he; exact he
    subst this
    cases rx with
    | vw e1 e2 e4 e5 e6 e7 e8 =>
     rename_i N2 sz2 cp a
     rw[hL]at e1; cases e1
     rw[hl']at e4; cases e4
     obtain ⟨M',b1,b2,b3,b4,b5,b6,b7⟩:=zgP (P:=P) (w:=w) (len:=len) (cp:=cp) (cap:=cap) (fun c hc=>(e7 c hc).1) e6 hb hl hh hm true
     rw[ev]
     have topN:off+cap.getD len≤N:=by
      cases cap with
      | none=>exact e5
      | some c=>exact (e7 c rfl).2
     refine ⟨_,zhN hu hs b1,_,RepC.vw hL e2 hl' (by omega) (by omega) ?_ ?_,rfl⟩
     ·intro c hc
      cases m with
      | none=>cases hc
      | some m' =>
       simp only[Option.map_some,Option.some.injEq]at hc
       have:=b5 m' rfl
       have:=b7 m' rfl
       omega
     ·by_cases e:M'=l
      ·left; omega
      ·right
       rcases e8 with e8 | ⟨b,o,e3,rfl⟩
       ·omega
       ·exact ⟨b,o,e3,by rw[if_neg e]; simp[zel,Nat.add_mul,Nat.add_assoc]⟩
   ·cases hr
  ·cases hr
 ·rename_i k xs
  split at hr
  ·rename_i e' hu
   split at hr
   ·rename_i hc
    rw[nbeq]at hc
    subst hc
    simp only[Option.map_eq_some_iff]at hr
    obtain ⟨⟨l,h',m⟩,hb,rfl⟩:=hr
    dsimp only
    have:e'=e:=by simp[zdj,hu]at he; exact he
    subst this
    cases rx with
    | pv rx =>
     cases rx with
     | sl l1 l2 =>
      obtain ⟨M',b1,b2,b3,b4,b5,b6,b7⟩:=zgP (P:=P) (w:=w) (cap:=none) (fun c hc=>by cases hc) l1 hb hl hh hm true
      rw[ev]
      exact ⟨_,zhN hu hs b1,RepA.pv1 (zu6 l1 l2 b2 b6 b3 rfl) rfl⟩
   ·cases hr
  ·cases hr
 ·rename_i sz xs
  split at hr
  ·rename_i e' hu
   split at hr
   ·rename_i hc
    rw[nbeq]at hc
    subst hc
    simp only[Option.map_eq_some_iff]at hr
    obtain ⟨⟨l,h',m⟩,hb,rfl⟩:=hr
    dsimp only
    have:e'=e:=by simp[zdj,hu]at he; exact he
    subst this
    cases rx with
    | pv rx =>
     cases rx with
     | sp l1 q1 q2 l2 =>
      obtain ⟨M',b1,b2,b3,b4,b5,b6,b7⟩:=zgP (P:=P) (w:=w) (cap:=none) (fun c hc=>by cases hc) l1 hb hl hh hm true
      rw[ev]
      exact ⟨_,zhN hu hs b1,RepA.pv1 (zFy l1 q1 q2 l2 b2 b6 b3) rfl⟩
   ·cases hr
  ·cases hr
 ·cases hr
end
end Go.Proofs.YtnolgfdjcipmmaaDoor.M
namespace Go.Proofs.YtnolgfdjcipmmaaDoor.M
open Go Go.RowKit
mutual
theorem A.all_true:∀ (x:A),x.all (fun _ _ _=>true)=true
 | .pv _=>rfl
 | .p _ _=>rfl
 | .pr ..=>rfl
 | .rp _=>rfl
 | .o _=>rfl
 | .vw ..=>rfl
 | .st fs=>by rw[A.all]; exact A.allL_true fs
 | .tup fs=>by rw[A.all]; exact A.allL_true fs
 | .fn _ fs=>by rw[A.all]; exact A.allL_true fs
 | .und=>rfl
 | .bad=>rfl
theorem A.allL_true:∀ (xs:List A),A.allL (fun _ _ _=>true) xs=true
 | []=>rfl
 | x :: xs=>by rw[A.allL,A.all_true x,A.allL_true xs]; rfl
end
theorem Blk.all_true (b:Blk):b.all (fun _ _ _=>true)=true:=by
 cases b with
 | box c=>exact A.all_true c
 | row _ _=>rfl
 | map _=>rfl
def upd {α:Type} (f:Nat→α) (d:Nat) (x:α):Nat→α:=fun n=>if n=d then x else f n
theorem zay {α:Type} (f:Nat→α) (d:Nat) (x:α):upd f d x d=x:=by simp[upd]
theorem zbh {α:Type} (f:Nat→α) {d n:Nat} (x:α) (h:n≠d):upd f d x n=f n:=by simp[upd,h]
section
variable {k:Wk} {β:Nat→Value} {S:Nat→Prop} {E:List (Nat × A)} {L:Nat→Option Blk} {a:Act} {w:World}
theorem zi8 {h:Array Obj} {o:Obj} {b:Nat} (hb:b < h.size):(h.push o)[b]?=h[b]?:=by
 rw[Array.getElem?_push,if_neg (by omega)]
theorem Keeps.new (R:Rl k β S E L a w) {d:Nat} (hd:L d=none) (v:Value) (blk:Blk) (o:Obj) :
  Keeps β (upd β d v) S S w.heap (w.heap.push o) L (upd L d (some blk)) (fun _ _ _=>true) where
 s _ h:=h
 h b hb:=zi8 (R.mem.bound b hb)
 l v' n π _ blk' hb:=by
  have hne:n≠d:=by intro e; subst e; rw[hd]at hb; cases hb
  exact ⟨zbh _ _ hne,blk',by rw[zbh _ _ hne]; exact hb,SameAt.refl _ _ _⟩
theorem Rl.new (R:Rl k β S E L a w) {d:Nat} (hd:L d=none) (v:Value) (blk:Blk) (o:Obj) (hv:∀ b,fp v b→b=w.heap.size)
  (hok:BlkOK (upd β d v) S (w.heap.push o) (upd L d (some blk)) d blk) :
  Rl k (upd β d v) S E (upd L d (some blk)) a { w with heap:=w.heap.push o }:=by
 have K:=Keeps.new R hd v blk o
 have M:MS (upd β d v) S (w.heap.push o) k.w0.heap.size k.F (upd L d (some blk)):=by
  refine R.mem.step K (fun n=>n=d) (by simp) ?_ ?_ ?_
  ·intro n b hb hn
   rw[zbh _ _ hn]at hb
   refine ⟨hb,zbh _ _ hn,Blk.all_true b,fun q hq=>zi8 (R.mem.own n b hb q hq).2.1⟩
  ·rintro n b hb rfl
   rw[zay]at hb
   cases hb
   refine ⟨hok,fun q hq=>?_⟩
   rw[zay]at hq
   have:=hv q hq
   subst this
   refine ⟨by simp,.inl R.size,fun n' b' hb' hne hq'=>?_⟩
   rw[zbh _ _ hne]at hb' hq'
   have:=(R.mem.own n' b' hb' _ hq').2.1
   omega
  ·intro q hq
   have hb:=R.mem.bound q hq
   refine ⟨by simp; omega,fun n b hb' hf=>?_⟩
   by_cases e:n=d
   ·subst e
    rw[zay]at hf
    have:=hv q hf
    omega
   ·rw[zbh _ _ e]at hb' hf
    exact (R.mem.own n b hb' q hf).1 hq
 have:=R.world (w':={ w with heap:=w.heap.push o }) K M (by simp) (fun b hb _=>zi8 (Nat.lt_of_lt_of_le hb R.size)) (fun b hb=>.inl hb) rfl rfl rfl
 exact this.sub fun p hp=>by
  rw[List.mem_filter]; exact ⟨hp,A.all_true _⟩
theorem Rl.newBox (R:Rl k β S E L a w) {d:Nat} (hd:L d=none) {c:A} {cs:List Value} (hc:RepC β S w.heap L c cs) (T:TypeId) :
  let w':World:={ w with heap:=w.heap.push (.cells cs.toArray T (0,0)) }
  Rl k (upd β d (.pointer (some ⟨w.heap.size,0,none⟩))) S E (upd L d (some (.box c))) a w' ∧
   RepA (upd β d (.pointer (some ⟨w.heap.size,0,none⟩))) S w'.heap (upd L d (some (.box c))) (.p d []) (.pointer (some ⟨w.heap.size,0,none⟩)):=by
 intro w'
 have K:=Keeps.new R hd (.pointer (some ⟨w.heap.size,0,none⟩)) (.box c) (.cells cs.toArray T (0,0))
 refine ⟨R.new hd _ _ _ (fun b hb=>hb.symm) ⟨w.heap.size,cs.toArray,T,by rw[zay],by simp,?_⟩,[_],.p (zay _ _ _) (A.ok_nil c) (by rw[zay]; rfl),?_⟩
 ·exact hc.mono K (A.all_true c)
 ·rw[show (Blk.box c).off []=0 from A.off_nil c]; rfl
theorem Rl.newRow (R:Rl k β S E L a w) {d:Nat} (hd:L d=none) {rc:RC} {vs us:List Value} (hc:RepRC S w.heap rc vs) (T:TypeId) (cap:Nat) (ex:Bool) (hcap:rc.len≤cap)
  (hex:ex=true→cap=rc.len) (hus:us.length=(cap - rc.len)*rc.sz) :
  let w':World:={ w with heap:=w.heap.push (.cells (vs++us).toArray T (0,0)) }
  Rl k (upd β d (.slice (some ⟨w.heap.size,0,none⟩) rc.len cap)) S E (upd L d (some (.row rc ex))) a w' ∧
   RepA (upd β d (.slice (some ⟨w.heap.size,0,none⟩) rc.len cap)) S w'.heap (upd L d (some (.row rc ex))) (.o d) (.slice (some ⟨w.heap.size,0,none⟩) rc.len cap):=by
 intro w'
 have K:=Keeps.new R hd (.slice (some ⟨w.heap.size,0,none⟩) rc.len cap) (.row rc ex) (.cells (vs++us).toArray T (0,0))
 refine ⟨R.new hd _ _ _ (fun b hb=>hb.2.symm) ⟨some ⟨w.heap.size,0,none⟩,cap,by rw[zay],hcap,hex,.inr ⟨w.heap.size,0,(vs++us).toArray,T,rfl,by simp,?_,[],vs,us,by simp,rfl,hc.mono K.s K.h⟩⟩,
  [_],.o (zay _ _ _) rfl,by rw[zay]; rfl⟩
 simp only[List.size_toArray,List.length_append,hc.size,hus,Nat.zero_add,←Nat.add_mul]
 exact Nat.mul_le_mul_right _ (by omega)
end
section
variable {k:Wk} {β:Nat→Value} {S:Nat→Prop} {E:List (Nat × A)} {L:Nat→Option Blk} {a:Act} {w:World}
theorem RepC.one_plain {h:Array Obj} {N0:Nat} {F:Nat→Prop} (M:MS β S h N0 F L):∀ {x:A} {vs:List Value},RepC β S h L x vs→x.isPlain=true→∀ v ∈ vs,v.oneCell'=true
 | _,_,.pv r,_=>r.one
 | _,_,.p ..,_=>fun v hv=>by simp at hv; subst hv; rfl
 | _,_,.pr ..,e=>fun v hv=>by simp at hv; subst hv; rfl
 | _,_,.rp ..,_=>fun v hv=>by simp at hv; subst hv; rfl
 | _,_,.vw ..,_=>fun v hv=>by simp at hv; subst hv; rfl
 | _,_,.fn _,_=>fun v hv=>by simp at hv; subst hv; rfl
 | _,_,.o (n:=n) (blk:=blk) e1 e2,_=>fun v hv=>by
  simp at hv; subst hv
  have:=M.blk n blk e1
  cases blk with
  | box c=>cases e2
  | row rc ex =>
   obtain ⟨a,cap,g1,_⟩:=this
   rw[g1]; rfl
  | map kv =>
   obtain ⟨r,es,clock,g1,_⟩:=this
   rw[g1]; rfl
 | _,_,.st _,e=>by simp[A.isPlain]at e
 | _,_,.tup _,e=>by simp[A.isPlain]at e
 | _,_,.und,e=>by simp[A.isPlain]at e
 | _,_,.bad,e=>by simp[A.isPlain]at e
theorem RepCL.one_plain {h:Array Obj} {N0:Nat} {F:Nat→Prop} (M:MS β S h N0 F L):∀ {xs:List A} {vs:List Value},RepCL β S h L xs vs→xs.all A.isPlain=true→∀ v ∈ vs,v.oneCell'=true
 | _,_,.nil,_,v,hv=>by cases hv
 | _,_,.cons a r,e,v,hv=>by
  simp only[List.all_cons,Bool.and_eq_true]at e
  rcases List.mem_append.1 hv with hv | hv
  ·exact a.one_plain M e.1 v hv
  ·exact r.one_plain M e.2 v hv
theorem RepC.one {h:Array Obj} {N0:Nat} {F:Nat→Prop} (M:MS β S h N0 F L) {x:A} {vs:List Value} (r:RepC β S h L x vs) (hs:x.storable=true):∀ v ∈ vs,v.oneCell'=true:=by
 cases r with
 | st r=>exact r.one_plain M hs
 | pv r=>exact r.one
 | p a b c=>exact (RepC.p a b c).one_plain M rfl
 | pr a b c d e f=>exact (RepC.pr a b c d e f).one_plain M rfl
 | rp a b c=>exact (RepC.rp a b c).one_plain M rfl
 | o a b=>exact (RepC.o a b).one_plain M rfl
 | vw a b c d e f g=>exact (RepC.vw a b c d e f g).one_plain M rfl
 | fn a=>exact (RepC.fn a).one_plain M rfl
 | tup _=>simp[A.storable,A.isPlain]at hs
 | und=>simp[A.storable,A.isPlain]at hs
 | bad=>simp[A.storable,A.isPlain]at hs
theorem RepC.cells {h:Array Obj} {N0:Nat} {F:Nat→Prop} (M:MS β S h N0 F L) {x:A} {vs:List Value} (r:RepC β S h L x vs) (hs:x.storable=true):(pack x.isAgg vs).cells=vs.toArray:=by
 have h1:=r.one M hs
 refine zvv (fun e=>?_)
 have hl:vs.length=1:=by
  cases r with
  | pv r=>exact r.len1 e
  | st r=>cases e
  | _=>rfl
 obtain ⟨v,rfl⟩:=List.length_eq_one_iff.1 hl
 refine ⟨v,rfl,?_⟩
 have:=h1 v (by simp)
 cases v<;>first | rfl | (simp[Value.oneCell']at this)
theorem Rl.store (
         R:Rl k β S E L a w) {P:Program} {t:TypeId} {n:Nat} {π:List PE} {blk blk':Blk} {y:A} {va vy:Value} (hL:L n=some blk) (hs:y.storable=true) (hf:fits P t y=true)
  (hsz:(blk.get π).size=y.size) (hset:blk.set π y=some blk') (hx:RepA β S w.heap L (.p n π) va) (hy:RepA β S w.heap L y vy)
  (hall:∀ m b,(upd L n (some blk')) m=some b→b.all (zar [(n,some π)])=true) :
  ∃ w',(Instr.storeAt t va vy).run P w=.ok () w'∧Rl k β S (E.filter fun p=>p.2.all (zar [(n,some π)])) (upd L n (some blk')) a w':=by
 obtain ⟨vs,rx,ea⟩:=hx
 obtain ⟨us',ry,ey⟩:=hy
 cases rx with
 | p e1 e2 e3 =>
  rename_i b o
  rw[hL]at e1; cases e1
  obtain ⟨cs,T,X,us,Y,q1,q0,q2,q3,q4,q5⟩:=place R.mem hL e2 e3
  simp only[fits,Bool.and_eq_true,beq_iff_eq]at hf
  obtain ⟨⟨f1,f2⟩,f3⟩:=hf
  have hlen:us.length=us'.length:=by rw[q4.size,ry.size]; exact hsz
  obtain ⟨cs',c1,c2⟩:=zog (P:=P) (t:=t) q1 q2 hlen (by rw[f1,ry.size]) (ry.one R.mem hs) vy (by rw[ey]; exact ry.cells R.mem hs)
  have hcell:=q5 y us' blk' ry hsz.symm hset
  refine ⟨w.setRow b cs',?_,?_⟩
  ·rw[ea]
   simp only[Instr.storeAt,Instr.sureAddr,zw0,A.isAgg,Sem.run_bind,Sem.run_pure,Result.andThen_ok]
   rw[←q3]; exact c2
  ·have hb:=R.mem.own n blk hL b q0
   have hheap:=zm2 (w:=w) (cs':=cs') q1
   have keepS:∀ q,S q→(w.setRow b cs').heap[q]?=w.heap[q]?:=fun q hq=>by
    rw[hheap,if_neg]; intro e; subst e; exact hb.1 hq
   have K:Keeps β β S S w.heap (w.setRow b cs').heap L (upd L n (some blk')) (zar [(n,some π)]):=by
    refine ⟨fun _ h=>h,keepS,fun v m π' hm blk0 hb0=>⟨rfl,?_⟩⟩
    by_cases e:m=n
    ·subst e
     rw[hL]at hb0; cases hb0
     refine ⟨blk',zay _ _ _,Blk.set_keeps hset e2 hsz.symm π' v ?_⟩
     have:(Nat.beq m m && zaO π v π')=false:=by simpa [zar] using hm
     rwa [nbeq.2 rfl,Bool.true_and]at this
    ·exact ⟨blk0,by rw[zbh _ _ e]; exact hb0,SameAt.refl _ _ _⟩
   have hsep:∀ m b',L m=some b'→m≠n→∀ q,fp (β m) q→(w.setRow b cs').heap[q]?=w.heap[q]?:=by
    intro m b' hm hne q hq
    rw[hheap,if_neg]
    intro e; subst e
    exact R.mem.sep m n hne (by rw[hm]; rfl) (by rw[hL]; rfl) _ hq q0
   have hblk':blk'.all (zar [(n,some π)])=true:=hall n blk' (zay _ _ _)
   have M':MS β S (w.setRow b cs').heap k.w0.heap.size k.F (upd L n (some blk')):=by
    refine R.mem.step K (fun m=>m=n) (by simp[World.setRow]) ?_ ?_ ?_
    ·intro m b' hm hne
     have hm':=hm
     rw[zbh _ _ hne]at hm'
     exact ⟨hm',rfl,hall m b' hm,hsep m b' hm' hne⟩
    ·rintro m b' hm rfl
     rw[zay]at hm
     cases hm
     refine ⟨?_,fun q hq=>⟨by simpa [World.setRow] using (R.mem.own m blk hL q hq).2.1,(R.mem.own m blk hL q hq).2.2,fun m' b' hm' hne hq'=>?_⟩⟩
     ·have hk:=R.mem.blk m blk hL
      cases blk with
      | box c =>
       simp only[Blk.set,Option.map_eq_some_iff]at hset
       obtain ⟨c',hc',rfl⟩:=hset
       obtain ⟨b2,cs2,T2,g1,g2,g3⟩:=hk
       rw[g1]at q0
       have:b2=b:=q0
       subst this
       refine ⟨b2,cs',T,g1,by rw[hheap,if_pos rfl],?_⟩
       rw[c1]
       exact RepC.mono K hcell hblk'
      | map kv=>exact e2.elim
      | row rc ex =>
       cases y<;>simp[Blk.set,Option.map_eq_some_iff]at hset
       obtain ⟨rc',hc',rfl⟩:=hset
       obtain ⟨a2,cap,g1,g2,g3,g4⟩:=hk
       have hok:=e2
       have hsz':=hsz
       obtain ⟨r1,r2,_⟩:=RC.set_keeps hc' e2 (by simpa [Blk.get,A.size] using hsz.symm)
       refine ⟨a2,cap,by rw[g1,r1],by omega,fun h=>by rw[r1]; exact g3 h,?_⟩
       rcases g4 with g4 | ⟨b2,o2,cs2,T2,k1,k2,k3,X0,vs0,Y0,k4,k5,k6⟩
       ·exact .inl g4
       ·rw[g1,k1]at q0 e3
        have hb2:b2=b:=q0.2
        simp only[zbT,Option.some.injEq,Addr.mk.injEq]at e3
        obtain ⟨_,ho,_⟩:=e3
        subst hb2 ho
        obtain ⟨X1,vs1,Y1,j1,j2,j3⟩:=hcell
        rw[q1]at k2
        cases k2
        refine .inr ⟨b2,o2,cs',T,k1,by rw[hheap,if_pos rfl],?_,X1,vs1,Y1,by rw[c1,j1],j2,j3.mono K.s K.h⟩
        have hlen':cs'.size=cs.size:=by
         have h1:=congrArg List.length c1
         have h2:=congrArg List.length q2
         simp at h1 h2
         omega
        rw[hlen',r2]; exact k3
     ·rw[zbh _ _ hne]at hm'
      exact R.mem.sep m m' (Ne.symm hne) (by rw[hL]; rfl) (by rw[hm']; rfl) q hq hq'
    ·intro q hq
     refine ⟨by simpa [World.setRow] using R.mem.bound q hq,fun m b' hm hf=>?_⟩
     by_cases e:m=n
     ·subst e; exact (R.mem.own m blk hL q hf).1 hq
     ·rw[zbh _ _ e]at hm
      exact (R.mem.own m b' hm q hf).1 hq
   refine R.world K M' (by simp[World.setRow]) (fun q hq hnf=>?_) (fun q hq=>.inl hq) rfl rfl rfl
   rw[hheap,if_neg]
   intro e; subst e
   rcases hb.2.2 with h | h
   ·omega
   ·exact hnf h
end
end Go.Proofs.YtnolgfdjcipmmaaDoor.M
namespace Go.Proofs.YtnolgfdjcipmmaaDoor.M
open Go
mutual
theorem zw3 {S:Nat→Prop} {h:Array Obj}:∀ {x:PV} {cs:List Value},encZ x=some cs→RepPV S h x cs
 | .sc k x,cs,e=>by simp[encZ]at e; subst e; exact .sc k x
 | .arr k n v,cs,e=>by simp[encZ]at e; subst e; exact .arr k n v
 | .st fs,cs,e=>.st (ztb (by simpa [encZ] using e))
 | .ar sz xs,cs,e=>by
  simp only[encZ]at e
  split at e
  ·rename_i hx
   refine .ar (fun x hx'=>?_) (ztb e)
   rw[List.all_eq_true]at hx
   exact nbeq.1 (hx x hx')
  ·cases e
 | .sl k [],cs,e=>by simp[encZ]at e; subst e; exact RepPV.sl (xs:=([]:List k.T)) (Nat.le_refl _) (.inl rfl)
 | .sp sz [],cs,e=>by simp[encZ]at e; subst e; exact RepPV.sp (xs:=[]) (Nat.le_refl _) (fun _ h=>by cases h) .nil (.inl rfl)
 | .sl k (_ :: _),cs,e=>by simp[encZ]at e
 | .sp sz (_ :: _),cs,e=>by simp[encZ]at e
 | .nilp,cs,e=>by simp[encZ]at e; subst e; exact .nilp
 | .nilm,cs,e=>by simp[encZ]at e; subst e; exact .nilm
 | .raw _,cs,e=>by simp[encZ]at e
theorem ztb {S:Nat→Prop} {h:Array Obj}:∀ {xs:List PV} {cs:List Value},zup xs=some cs→RepL S h xs cs
 | [],cs,e=>by simp[zup]at e; subst e; exact .nil
 | x :: xs,cs,e=>by
  simp only[zup,Option.bind_eq_some_iff,Option.map_eq_some_iff]at e
  obtain ⟨a,ha,b,hb,rfl⟩:=e
  exact .cons (zw3 ha) (ztb hb)
end
theorem zHQ:∀ {a b:Value},zJh a b=true→a=b:=by
 intro a b h
 unfold zJh at h
 split at h
 ·simp at h; rw[h]
 ·simp at h; rw[h.1,h.2]
 ·rfl
 ·rfl
 ·rfl
 ·cases h
theorem zso:∀ {a b:List Value},zu4 a b=true→a=b
 | [],[],_=>rfl
 | [],_ :: _,h=>by simp[zu4]at h
 | _ :: _,[],h=>by simp[zu4]at h
 | x :: xs,y :: ys,h=>by
  simp only[zu4,Bool.and_eq_true]at h
  rw[zHQ h.1,zso h.2]
theorem zfp {P:Program} {t:TypeId} {z:PV} (h:zoE P t=some z) :
  ∃ (i:TypeInfo) (v:Value) (cs:List Value),P.info? t=some i∧i.zero=some v∧v.cells=cs.toArray∧(∀ S hh,RepPV S hh z cs)∧v=pack z.isAgg cs∧z.isAgg=aggT P t∧szT P t=some z.size:=by
 simp only[zoE,Option.bind_eq_some_iff]at h
 obtain ⟨z',hz,cs,hcs,h⟩:=h
 cases hi:P.info? t with
 | none=>simp[hi]at h
 | some i =>
  simp only[hi,Option.bind_some]at h
  cases hv:i.zero with
  | none=>simp[hv]at h
  | some v =>
   simp only[hv]at h
   split at h
   ·rename_i hc
    cases h
    simp only[Bool.and_eq_true,beq_iff_eq]at hc
    obtain ⟨⟨⟨c1,c2⟩,c3⟩,c4⟩:=hc
    have e:=zso c1
    have ev:v.cells=cs.toArray:=by rw[←e]
    refine ⟨i,v,cs,rfl,hv,ev,fun S hh=>zw3 hcs,?_,c3,c4⟩
    cases v<;>simp only[zIw]at c2<;>rw[c2]<;>simp[Value.cells]at ev<;>first | (rw[←ev]; rfl) | (simp[pack,←ev])
   ·cases h
theorem zoe {P:Program} {w:World} {t:TypeId} {i:TypeInfo} {v:Value} (hi:P.info? t=some i) (hv:i.zero=some v):(zeroValue t).run P w=.ok v w:=by
 simp[zeroValue,typeInfo,hi,hv]
theorem zsx (cs:List Value) (hs:0 < cs.length) (n:Nat) :
  ((Array.range (n*cs.length)).map (fun i=>cs.toArray[i % cs.toArray.size]!)).toList=(List.replicate n cs).flatten:=by
 simp only[Array.toList_map,Array.toList_range,List.size_toArray]
 induction n with
 | zero=>simp
 | succ n ih =>
  rw[Nat.add_mul,Nat.one_mul,List.range_add,List.map_append,ih,List.replicate_succ',List.flatten_append]
  congr 1
  simp only[List.map_map,List.flatten_cons,List.flatten_nil,List.append_nil]
  apply List.ext_getElem
  ·simp
  ·intro i h1 h2
   simp at h1
   simp[Nat.mod_eq_of_lt h1,Nat.mul_add_mod_self_right,h1]
theorem zDo (cs:List Value) (n:Nat):(List.replicate n cs).flatten.length=n*cs.length:=by simp
theorem zIu {S:Nat→Prop} {h:Array Obj} {z:PV} {cs:List Value} (r:RepPV S h z cs):∀ n,RepL S h (List.replicate n z) (List.replicate n cs).flatten
 | 0=>.nil
 | n+1=>by rw[List.replicate_succ,List.replicate_succ,List.flatten_cons]; exact .cons r (zIu r n)
theorem zoL {P:Program} {e:TypeId} {n:Nat} {rc:RC} (h:zo1 P e n=some rc) :
  ∃ (i:TypeInfo) (v:Value) (cs:List Value),P.info? e=some i∧i.zero=some v∧v.cells=cs.toArray∧0 < cs.length∧szT P e=some cs.length∧rc.len=n∧rc.sz=cs.length ∧
   ∀ S hh,RepRC S hh rc (List.replicate n cs).flatten:=by
 simp only[zo1,Option.bind_eq_some_iff]at h
 obtain ⟨z,hz,h⟩:=h
 obtain ⟨i,v,cs,h1,h2,h3,h4,h5,h6,h7⟩:=zfp hz
 cases hek:ekT P e with
 | some k' =>
  rw[hek]at h
  cases z<;>simp only at h<;>try (cases h; done)
  rename_i k x
  split at h
  ·rename_i hc
   simp only[beq_iff_eq]at hc
   simp only[Option.map_eq_some_iff]at h
   obtain ⟨y,hy,rfl⟩:=h
   have hk:k=k'∧HEq y x:=by
    cases k<;>cases k'<;>simp[EK.cast]at hy<;>subst hy<;>exact ⟨rfl,HEq.rfl⟩
   obtain ⟨rfl,hyx⟩:=hk
   have hyx:=eq_of_heq hyx
   subst hyx
   have hr:=h4 (fun _=>True) #[]
   cases hr
   refine ⟨i,v,_,h1,h2,h3,by simp,by simpa using hc,by simp[RC.len],rfl,fun S hh=>?_⟩
   have:=RepRC.s (S:=S) (h:=hh) k (List.replicate n y)
   rw[List.map_replicate]at this
   have e2:(List.replicate n [k.enc y]).flatten=List.replicate n (k.enc y):=by
    clear this
    induction n with
    | zero=>rfl
    | succ n ih=>rw[List.replicate_succ,List.flatten_cons,ih,List.replicate_succ]; rfl
   rw[e2]; exact this
  ·cases h
 | none =>
  rw[hek]at h
  simp only at h
  split at h
  ·rename_i hc
   simp only[Bool.and_eq_true,beq_iff_eq]at hc
   cases h
   have hl:=(h4 (fun _=>True) #[]).size
   have hp:0 < z.size:=Nat.le_of_ble_eq_true hc.1
   refine ⟨i,v,cs,h1,h2,h3,by omega,by rw[h7,hl],by simp[RC.len],by simp[RC.sz,hl],fun S hh=>.p (fun x hx=>by rw[List.eq_of_mem_replicate hx]) (zIu (h4 S hh) n)⟩
  ·cases h
end Go.Proofs.YtnolgfdjcipmmaaDoor.M
namespace Go.Proofs.YtnolgfdjcipmmaaDoor.M
open Go
def Out.mem (o:Out) (L:Nat→Option Blk):Nat→Option Blk:=fun n=>if za5 o.cut n=true then none else match lk o.upd n with
 | some b=>some b
 | none=>L n
def Does (k:Wk) (β:Nat→Value) (S:Nat→Prop) (E:List (Nat × A)) (L:Nat→Option Blk) (a:Act) (w:World) (r:Result Value) (o:Out):Prop :=
 ∃ v β' S' w',r=.ok v w'∧Rl k β' S' (E.filter fun p=>p.2.all (zar o.cut)) (o.mem L) a w'∧RepA β' S' w'.heap (o.mem L) o.val v
section
variable {P:Program} {k:Wk} {β:Nat→Value} {S:Nat→Prop} {E:List (Nat × A)} {L:Nat→Option Blk} {a:Act} {w:World}
theorem zc0 {d:Nat} {b:Blk} {x:A}:({ val:=x,upd:=[(d,b)] }:Out).mem L=upd L d (some b):=by
 funext n
 simp only[Out.mem,za5,List.any_nil,Bool.false_eq_true,if_false,zaD,upd]
 by_cases e:d=n
 ·subst e; simp
 ·rw[if_neg e,if_neg (fun h=>e h.symm)]; rfl
theorem Rl.filter_nil {E:List (Nat × A)} (R:Rl k β S E L a w):Rl k β S (E.filter fun p=>p.2.all (zar [])) L a w:=R.sub fun p hp=>(List.mem_filter.1 hp).1
theorem zwz (R:Rl k β S E L a w) {d:Nat} {t:TypeId} {o:Out} (h:zxe P L d t=some o) (old:Value):Does k β S E L a w ((Instr.alloc t true old).run P w) o:=by
 simp only[zxe,zfC,Option.bind_eq_some_iff]at h
 obtain ⟨z,hz,h⟩:=h
 split at h
 ·rename_i hd
  cases h
  obtain ⟨i,v,cs,h1,h2,h3,h4,h5,h6,h7⟩:=zfp hz
  have hn:=R.newBox hd (RepC.pv (h4 S w.heap)) t
  refine ⟨_,_,S,_,?_,by rw[zc0]; exact hn.1.filter_nil,by rw[zc0]; exact hn.2⟩
  simp[Instr.alloc,zoe h1 h2,newVar,newRow,h3]
 ·cases h
theorem zCa (R:Rl k β S E L a w) {d:Nat} {t:TypeId} {y:A} {v:Value} {o:Out} (h:zHu L d y=some o) (hy:RepA β S w.heap L y v):Does k β S E L a w ((Instr.box t v).run P w) o:=by
 simp only[zHu,zfC]at h
 split at h
 ·rename_i hs
  split at h
  ·rename_i hd
   cases h
   obtain ⟨vs,ry,ev⟩:=hy
   have hn:=R.newBox hd ry t
   refine ⟨_,_,S,_,?_,by rw[zc0]; exact hn.1.filter_nil,by rw[zc0]; exact hn.2⟩
   have:=ry.cells R.mem hs
   rw[←ev]at this
   simp[Instr.box,newVar,newRow,this]
  ·cases h
 ·cases h
theorem zub (cs:List Value) (hs:0 < cs.length) (n:Nat):(madeCells cs.toArray (n*cs.length)).toList=(List.replicate n cs).flatten:=by
 unfold madeCells
 exact zsx cs hs n
theorem zpK (R:Rl k β S E L a w) {d:Nat} {t:TypeId} {l c:Int} {ex:Bool} {kl kc:IntKind} {o:Out} (h:zdI P L d t l c ex=some o) (hex:ex=true→c=l) :
  Does k β S E L a w ((Instr.makeSlice t (.int kl l) (.int kc c)).run P w) o:=by
 unfold zdI at h
 split at h
 ·rename_i e hu
  split at h
  ·rename_i hc
   obtain ⟨c1,c2,c3,c4⟩:=hc
   simp only[Option.bind_eq_some_iff,zfC]at h
   obtain ⟨rc,hrc,h⟩:=h
   split at h
   ·rename_i hd
    cases h
    obtain ⟨i,v,cs,h1,h2,h3,h4,h5,h6,h7,h8⟩:=zoL hrc
    have hb:(i.bytes:Int)*c≤281474976710656:=by
     have:zmc P e=i.bytes:=by simp[zmc,h1]
     rw[this]at c3
     have hr:(room:Int)=70368744177664:=rfl
     rw[hr,Int.mul_comm]at c3
     omega
    have hm:=run_make (P:=P) w t e i v hu h1 h2 kl kc l c c1 c2 hb (by omega)
    have hsz:i.size=cs.length:=by
     have:szT P e=some i.size:=by simp[szT,h1]
     rw[this]at h5
     exact Option.some.inj h5
    have hle:l.toNat≤c.toNat:=by omega
    have hn:=R.newRow hd (h8 S w.heap) e c.toNat ex (us:=(List.replicate (c.toNat - l.toNat) cs).flatten) (by rw[h6]; exact hle)
     (fun hx=>by have:=hex hx; rw[h6]; omega) (by rw[zDo,h6,h7])
    rw[h6]at hn
    refine ⟨_,_,S,_,?_,by rw[zc0]; exact hn.1.filter_nil,by rw[zc0]; exact hn.2⟩
    rw[hm]
    congr 1
    unfold World.alloc
    congr 2
    have e1:(madeCells v.cells (c.toNat*i.size))=((List.replicate l.toNat cs).flatten++(List.replicate (c.toNat - l.toNat) cs).flatten).toArray:=by
     apply Array.ext'
     rw[h3,hsz,zub cs h4,←List.flatten_append,List.replicate_append_replicate]
     congr 2
     omega
    rw[e1]
   ·cases h
  ·cases h
 ·cases h
theorem zH3 (X us l Y:List Value) (hl:us.length=l.length) :
  (l.zipIdx.foldl (fun cs (x:Value × Nat)=>cs.setIfInBounds (X.length+x.2) x.1) (X++us++Y).toArray)=(X++l++Y).toArray:=by
 obtain ⟨h1,h2⟩:=Great.foldl_set X.length l 0 (X++us++Y).toArray
 apply Array.ext
 ·rw[h1]; simp[hl]
 ·intro i q1 q2
  have e:∀ (A:Array Value) (h:i < A.size),A[i]?=some A[i]:=fun A h=>by simp[h]
  have:=h2 i
  rw[e _ q1]at this
  apply Option.some.inj
  rw[this,←e _ q2]
  simp only[Nat.add_zero,List.size_toArray,List.length_append,List.getElem?_toArray]
  by_cases c1:i < X.length
  ·rw[if_neg (by omega),List.append_assoc,List.append_assoc,List.getElem?_append_left c1,List.getElem?_append_left c1]
  ·by_cases c2:i < X.length+l.length
   ·rw[if_pos ⟨by omega,c2,by omega⟩,List.append_assoc,List.getElem?_append_right (by omega),List.getElem?_append_left (by omega)]
   ·rw[if_neg (by omega),List.append_assoc,List.append_assoc,List.getElem?_append_right (by omega),List.getElem?_append_right (by omega),List.getElem?_append_right (by omega),
     List.getElem?_append_right (by omega),hl]
theorem zrY {place:Nat→Option (Nat × Nat)} {i:Nat} {v:Value} {rest:List (Nat × Value)} {X us Y us':List Value} (hp:place i=some (X.length,us'.length)) (hl:us.length=us'.length) (hv:v.cells=us'.toArray) :
  Instr.fill place (X++us++Y).toArray ((i,v) :: rest)=Instr.fill place (X++us' ++ Y).toArray rest:=by
 rw[Instr.fill,hp]
 simp only[hv,List.size_toArray,List.length_append]
 rw[if_neg (by simp; omega)]
 congr 1
 have:=zH3 X us us' Y hl
 rw[←this]
 simp[←Array.foldl_toList]
theorem zEL {z:A} {i:Nat} {arr:Bool} (h:zCD z i arr=true):z.ok [bif arr then PE.i i else PE.f i]:=by
 cases arr<;>cases z<;>simp[zCD]at h
 ·rename_i x; cases x<;>simp at h; exact ⟨by simpa [Nat.blt] using h,PV.ok_nil _⟩
 ·exact ⟨by simpa [Nat.blt] using h,A.ok_nil _⟩
 ·rename_i x; cases x<;>simp at h
  ·simpa [A.ok,PV.ok,Nat.blt] using h
  ·exact ⟨by simpa [Nat.blt] using h,PV.ok_nil _⟩
inductive Parts (β:Nat→Value) (S:Nat→Prop) (h:Array Obj) (L:Nat→Option Blk):List (Nat × A)→List (Nat × Value)→Prop
 | nil:Parts β S h L [] []
 | cons {i x v ps vs}:RepA β S h L x v→Parts β S h L ps vs→Parts β S h L ((i,x) :: ps) ((i,v) :: vs)
theorem zhG {N0:Nat} {F:Nat→Prop} {h:Array Obj} (M:MS β S h N0 F L) {place:Nat→Option (Nat × Nat)} {arr:Bool}:∀ {ps:List (Nat × A)} {vs:List (Nat × Value)} {z y:A} {cs:List Value},
  zl9 place arr z ps=some y→Parts β S h L ps vs→RepC β S h L z cs →
  ∃ cs',Instr.fill place cs.toArray vs=some cs'.toArray∧RepC β S h L y cs'
 | [],vs,z,y,cs,e,hf,hz=>by
  cases hf
  simp only[zl9,Option.some.injEq]at e
  subst e
  exact ⟨cs,rfl,hz⟩
 | (i,x) :: r,vs,z,y,cs,e,hf,hz=>by
  cases hf with
  | cons hx hf =>
   rename_i v vs
   simp only[zl9,Option.bind_eq_some_iff]at e
   obtain ⟨os,hos,e⟩:=e
   split at e
   ·rename_i hc
    simp only[Bool.and_eq_true,nbeq]at hc
    obtain ⟨⟨⟨⟨c1,c2⟩,c3⟩,c4⟩,c5⟩:=hc
    simp only[Option.bind_eq_some_iff]at e
    obtain ⟨z',hz',e⟩:=e
    obtain ⟨us',rx,ev⟩:=hx
    obtain ⟨X,us,Y,q1,q2,q3,q4⟩:=hz.part _ (zEL c2)
    have hlen:us.length=us'.length:=by rw[q3.size,rx.size]; exact c3
    have hr:=q4 x us' z' rx c3.symm hz'
    obtain ⟨cs',g1,g2⟩:=zhG M e hf hr
    refine ⟨cs',?_,g2⟩
    rw[q1,zrY (us':=us') (by rw[hos,q2,←c4,rx.size,←c5]) hlen (by have:=rx.cells M c1; rw[←ev]at this; exact this)]
    exact g1
   ·cases e
theorem PV.set_isAgg {z y z':PV} {q:PE} (h:z.set [q] y=some z') (hz:z.isAgg=true):z'.isAgg=true:=by
 cases z with
 | arr k n v =>
  cases q with
  | f j=>simp[PV.set]at h
  | i j =>
   cases y with
   | sc k' x =>
    simp only[PV.set,Option.map_eq_some_iff]at h
    obtain ⟨_,_,rfl⟩:=h; rfl
   | _=>simp[PV.set]at h
 | st fs =>
  cases q with
  | i j=>simp[PV.set]at h
  | f j=>simp only[PV.set,Option.map_eq_some_iff]at h; obtain ⟨_,_,rfl⟩:=h; rfl
 | ar sz xs =>
  cases q with
  | f j=>simp[PV.set]at h
  | i j=>simp only[PV.set,Option.map_eq_some_iff]at h; obtain ⟨_,_,rfl⟩:=h; rfl
 | _=>cases hz
theorem A.set_isAgg {z y z':A} {q:PE} (h:z.set [q] y=some z') (hz:z.isAgg=true):z'.isAgg=true:=by
 cases z with
 | pv x =>
  by_cases hy:∃ p,y=.pv p
  ·obtain ⟨p,rfl⟩:=hy
   have h:(x.set [q] p).map A.pv=some z':=by simpa [A.set] using h
   simp only[Option.map_eq_some_iff]at h
   obtain ⟨u,hu,rfl⟩:=h
   exact PV.set_isAgg hu hz
  ·cases x<;>cases q<;>cases y<;>first | (exact absurd ⟨_,rfl⟩ hy) | (simp[A.set]at h; done) | (simp[A.set]at h; obtain ⟨_,_,rfl⟩:=h; rfl) | (simp[A.set]at h; subst h; rfl)
 | st fs =>
  cases q with
  | i j=>simp[A.set]at h
  | f j=>simp[A.set,Option.map_eq_some_iff]at h; obtain ⟨_,_,rfl⟩:=h; rfl
 | _=>cases hz
theorem zlw {place:Nat→Option (Nat × Nat)} {arr:Bool}:∀ {ps:List (Nat × A)} {z y:A},zl9 place arr z ps=some y→z.isAgg=true→y.isAgg=true
 | [],z,y,e,hz=>by simp only[zl9,Option.some.injEq]at e; subst e; exact hz
 | (i,x) :: r,z,y,e,hz=>by
  simp only[zl9,Option.bind_eq_some_iff]at e
  obtain ⟨os,hos,e⟩:=e
  split at e
  ·simp only[Option.bind_eq_some_iff]at e
   obtain ⟨z',hz',e⟩:=e
   exact zlw e (A.set_isAgg hz' hz)
  ·cases e
theorem zxD {N0:Nat} {F:Nat→Prop} (M:MS β S w.heap N0 F L) {t:TypeId} {ps:List (Nat × A)} {vs:Array (Nat × Value)} {y:A} (h:zCp P t ps=some y)
  (hf:Parts β S w.heap L ps vs.toList):∃ v,(Instr.build t vs).run P w=.ok v w∧RepA β S w.heap L y v:=by
 simp only[zCp,Option.bind_eq_some_iff]at h
 obtain ⟨z,hz,h⟩:=h
 obtain ⟨i,v,cs,h1,h2,h3,h4,h5,h6,h7⟩:=zfp hz
 split at h
 ·rename_i ha
  split at h
  ·rename_i n e hu
   simp only[Option.bind_eq_some_iff]at h
   obtain ⟨ie,hie,h⟩:=h
   obtain ⟨cs',g1,g2⟩:=zhG M h hf (RepC.pv (h4 S w.heap))
   refine ⟨_,run_build w t vs cs'.toArray ?_,cs',g2,?_⟩
   ·simp only[Program.built,h1,hu,h2,hie,h3]; exact g1
   ·rw[zlw h ha]; rfl
  ·rename_i fs hu
   simp only[Option.bind_eq_some_iff]at h
   obtain ⟨pl,hpl,h⟩:=h
   obtain ⟨cs',g1,g2⟩:=zhG M h hf (RepC.pv (h4 S w.heap))
   refine ⟨_,run_build w t vs cs'.toArray ?_,cs',g2,?_⟩
   ·simp only[Program.built,h1,hu,h2,hpl,h3]; exact g1
   ·rw[zlw h ha]; rfl
  ·cases h
 ·cases h
end
end Go.Proofs.YtnolgfdjcipmmaaDoor.M
namespace Go.Proofs.YtnolgfdjcipmmaaDoor.M
open Go
section
variable {P:Program} {k:Wk} {β:Nat→Value} {S:Nat→Prop} {E:List (Nat × A)} {L:Nat→Option Blk} {a:Act} {w:World} {h:Array Obj}
mutual
theorem zDX:∀ {x:A} {y:PV} {vs:List Value},x.toPV=some y→RepC β S h L x vs→RepPV S h y vs∧y.isAgg=x.isAgg
 | .pv x,y,vs,e,r=>by
  simp only[A.toPV,Option.some.injEq]at e
  subst e
  cases r with
  | pv r=>exact ⟨r,rfl⟩
 | .st fs,y,vs,e,r=>by
  simp only[A.toPV,Option.map_eq_some_iff]at e
  obtain ⟨ys,hys,rfl⟩:=e
  cases r with
  | st r=>exact ⟨.st (zzj hys r),rfl⟩
 | .p ..,_,_,e,_=>by simp[A.toPV]at e
 | .pr ..,_,_,e,_=>by simp[A.toPV]at e
 | .rp ..,_,_,e,_=>by simp[A.toPV]at e
 | .o ..,_,_,e,_=>by simp[A.toPV]at e
 | .vw ..,_,_,e,_=>by simp[A.toPV]at e
 | .tup ..,_,_,e,_=>by simp[A.toPV]at e
 | .fn ..,_,_,e,_=>by simp[A.toPV]at e
 | .und,_,_,e,_=>by simp[A.toPV]at e
 | .bad,_,_,e,_=>by simp[A.toPV]at e
theorem zzj:∀ {xs:List A} {ys:List PV} {vs:List Value},A.toPVs xs=some ys→RepCL β S h L xs vs→RepL S h ys vs
 | [],ys,vs,e,r=>by
  simp only[A.toPVs,Option.some.injEq]at e
  subst e
  cases r
  exact .nil
 | x :: xs,ys,vs,e,r=>by
  simp only[A.toPVs,Option.bind_eq_some_iff,Option.map_eq_some_iff]at e
  obtain ⟨y,hy,ys',hys,rfl⟩:=e
  cases r with
  | cons a r=>exact .cons (zDX hy a).1 (zzj hys r)
end
theorem zHJ {x:A} {y:PV} {v:Value} (e:x.toPV=some y) (r:RepA β S h L x v):∃ vs,RepPV S h y vs∧v.cells=vs.toArray:=by
 obtain ⟨vs,r,ev⟩:=r
 obtain ⟨q1,q2⟩:=zDX e r
 refine ⟨vs,q1,?_⟩
 rw[ev,←q2]
 exact zvv fun e=>q1.flat e
theorem zI7 {k k':EK} {x:k'.T} {y:k.T} (h:EK.cast k' k x=some y):k'.enc x=k.enc y:=by
 cases k<;>cases k'<;>simp[EK.cast]at h<;>subst h<;>rfl
theorem zF8 (k:EK) (x:k.T):(k.enc x).cells=#[k.enc x]:=by cases k<;>rfl
theorem zGo {k:EK}:∀ {ps:List (Nat × A)} {pv:List (Nat × Value)} {i:Nat} {xs:List A} {ys:List k.T} {X Y:List Value},zc1 i ps=some xs→zqO k xs=some ys →
  Parts β S h L ps pv→X.length=i→Y.length=xs.length→Instr.fill (fun i=>some (i*1,1)) (X++Y).toArray pv=some (X++ys.map k.enc).toArray
 | [],pv,i,xs,ys,X,Y,h1,h2,h3,h4,h5=>by
  simp only[zc1,Option.some.injEq]at h1
  subst h1
  simp only[zqO,Option.some.injEq]at h2
  subst h2
  cases h3
  simp only[List.length_nil,List.length_eq_zero_iff]at h5
  subst h5
  rfl
 | (j,x) :: ps,pv,i,xs,ys,X,Y,h1,h2,h3,h4,h5=>by
  simp only[zc1]at h1
  split at h1
  ·rename_i hj
   rw[nbeq]at hj
   subst hj
   simp only[Option.map_eq_some_iff]at h1
   obtain ⟨xs',hxs,rfl⟩:=h1
   cases h3 with
   | cons hx h3 =>
    rename_i v pv
    cases Y with
    | nil=>simp at h5
    | cons y0 Y =>
     have hx':∃ (k':EK) (u:k'.T),x=.pv (.sc k' u):=by
      cases x with
      | pv q=>cases q with
       | sc k' u=>exact ⟨k',u,rfl⟩
       | _=>simp[zqO]at h2
      | _=>simp[zqO]at h2
     obtain ⟨k',u,rfl⟩:=hx'
     simp only[zqO,Option.bind_eq_some_iff,Option.map_eq_some_iff]at h2
     obtain ⟨y,hy,ys',hys,rfl⟩:=h2
     have ev:=hx.sc_inv
     rw[zI7 hy]at ev
     have st:=zrY (place:=fun i=>some (i*1,1)) (i:=j) (v:=v) (rest:=pv) (X:=X) (us:=[y0]) (Y:=Y) (us':=[k.enc y]) (by simp[h4]) rfl (by rw[ev]; exact zF8 _ _)
     have e1:X++y0 :: Y=X++[y0]++Y:=by simp
     rw[e1,st,zGo hxs hys h3 (X:=X++[k.enc y]) (by simp[h4]) (by simpa using h5)]
     simp
  ·cases h1
theorem zGC {s:Nat}:∀ {ps:List (Nat × A)} {pv:List (Nat × Value)} {i:Nat} {xs:List A} {ys:List PV},zc1 i ps=some xs→zy8 s xs=some ys →
  Parts β S h L ps pv→∃ us,RepL S h ys us∧(∀ y ∈ ys,y.size=s)∧∀ X Y:List Value,X.length=i*s→Y.length=xs.length*s→Instr.fill (fun i=>some (i*s,s)) (X++Y).toArray pv=some (X++us).toArray
 | [],pv,i,xs,ys,h1,h2,h3=>by
  simp only[zc1,Option.some.injEq]at h1
  subst h1
  simp only[zy8,Option.some.injEq]at h2
  subst h2
  cases h3
  refine ⟨[],.nil,by simp,fun X Y h4 h5=>?_⟩
  simp only[List.length_nil,Nat.zero_mul,List.length_eq_zero_iff]at h5
  subst h5
  rfl
 | (j,x) :: ps,pv,i,xs,ys,h1,h2,h3=>by
  simp only[zc1]at h1
  split at h1
  ·rename_i hj
   rw[nbeq]at hj
   subst hj
   simp only[Option.map_eq_some_iff]at h1
   obtain ⟨xs',hxs,rfl⟩:=h1
   cases h3 with
   | cons hx h3 =>
    rename_i v pv
    simp only[zy8,Option.bind_eq_some_iff]at h2
    obtain ⟨y,hy,h2⟩:=h2
    split at h2
    ·rename_i hs
     rw[nbeq]at hs
     simp only[Option.map_eq_some_iff]at h2
     obtain ⟨ys',hys,rfl⟩:=h2
     obtain ⟨vs,q1,q2⟩:=zHJ hy hx
     have hvs:vs.length=s:=by rw[q1.size,hs]
     obtain ⟨us,r1,r2,r3⟩:=zGC hxs hys h3
     refine ⟨vs++us,.cons q1 r1,?_,fun X Y h4 h5=>?_⟩
     ·intro z hz
      rcases List.mem_cons.1 hz with rfl | hz
      ·exact hs
      ·exact r2 z hz
     ·have hY:(Y.take s).length=s∧(Y.drop s).length=xs'.length*s:=by
       simp only[List.length_cons,Nat.add_mul,Nat.one_mul]at h5
       simp only[List.length_take,List.length_drop]
       omega
      have st:=zrY (place:=fun i=>some (i*s,s)) (i:=j) (v:=v) (rest:=pv) (X:=X) (us:=Y.take s) (Y:=Y.drop s) (us':=vs) (by simp[h4,hvs]) (by rw[hY.1,hvs]) q2
      have e1:X++Y=X++Y.take s++Y.drop s:=by simp
      rw[e1,st,r3 (X++vs) (Y.drop s) (by simp[h4,hvs,Nat.add_mul]) hY.2]
      simp
    ·cases h2
  ·cases h1
theorem zy4 {k:EK}:∀ {xs:List A} {ys:List k.T},zqO k xs=some ys→ys.length=xs.length
 | [],ys,e=>by simp only[zqO,Option.some.injEq]at e; subst e; rfl
 | x :: xs,ys,e=>by
  have hx':∃ (k':EK) (u:k'.T),x=.pv (.sc k' u):=by
   cases x with
   | pv q=>cases q with
    | sc k' u=>exact ⟨k',u,rfl⟩
    | _=>simp[zqO]at e
   | _=>simp[zqO]at e
  obtain ⟨k',u,rfl⟩:=hx'
  simp only[zqO,Option.bind_eq_some_iff,Option.map_eq_some_iff]at e
  obtain ⟨y,hy,ys',hys,rfl⟩:=e
  simp[zy4 hys]
theorem zAY {s:Nat}:∀ {xs:List A} {ys:List PV},zy8 s xs=some ys→ys.length=xs.length
 | [],ys,e=>by simp only[zy8,Option.some.injEq]at e; subst e; rfl
 | x :: xs,ys,e=>by
  simp only[zy8,Option.bind_eq_some_iff]at e
  obtain ⟨y,hy,e⟩:=e
  split at e
  ·simp only[Option.map_eq_some_iff]at e
   obtain ⟨ys',hys,rfl⟩:=e
   simp[zAY hys]
  ·cases e
theorem zsT (w:World) (t e:TypeId) (len:Nat) (parts:Array (Nat × Value)) (cells:Array Value) (ie:TypeInfo) (z:Value)
  (hu:P.underlying t=some (.slice e)) (hie:P.info? e=some ie) (hz:ie.zero=some z) (hsmall:¬ len*ie.size > 2 ^ 24) (cs0:Array Value) (hcs:cs0.size=len*ie.size)
  (h:∀ c:Array Value,c.size=len*ie.size→Instr.fill (fun i=>some (i*ie.size,ie.size)) c parts.toList=some cells) :
  (Instr.buildSlice t len parts).run P w=.ok (.slice (some ⟨w.heap.size,0,none⟩) len len) (w.alloc (.cells cells e)):=by
 by_cases hpos:len*ie.size=0
 ·have h':=h ((Array.range (len*ie.size)).map ((#[]:Array Value)[· % (#[]:Array Value).size]!)) (by simp)
  simp[Instr.buildSlice,run_underlying hu,sizeOf,typeInfo,zeroValue,hie,hz,hsmall,hpos]at h' ⊢
  simp[h',newRow]
 ·exact run_buildSlice w t e len parts cells ie z hu hie hz hsmall hpos (h _ (by simp))
theorem zor (R:Rl k β S E L a w) {d:Nat} {t:TypeId} {n:Nat} {ps:List (Nat × A)} {vs:Array (Nat × Value)} {o:Out} (hr:zdZ P L d t n ps=some o)
  (hf:Parts β S w.heap L ps vs.toList):Does k β S E L a w ((Instr.buildSlice t n vs).run P w) o:=by
 unfold zdZ at hr
 split at hr
 ·rename_i e hu
  simp only[Option.bind_eq_some_iff]at hr
  obtain ⟨xs,hxs,hr⟩:=hr
  split at hr
  ·rename_i hc
   simp only[Bool.and_eq_true,nbeq]at hc
   obtain ⟨⟨c1,c2⟩,c3⟩:=hc
   have c3:=Nat.le_of_ble_eq_true c3
   obtain ⟨z,hz⟩:=Option.isSome_iff_exists.1 c2
   obtain ⟨i,v,cs,h1,h2,h3,h4,h5,h6,h7⟩:=zfp hz
   have hsi:szT P e=some i.size:=by simp[szT,h1]
   have hsmall:¬ n*i.size > 2 ^ 24:=by rw[hsi]at c3; simp at c3; omega
   have fin:∀ (rc:RC) (us:List Value),RepRC S w.heap rc us→rc.len=n→rc.sz=i.size→(∀ c:Array Value,c.size=n*i.size→Instr.fill (fun j=>some (j*i.size,i.size)) c vs.toList=some us.toArray) →
     zfC L d (.row rc true) (.o d)=some o→Does k β S E L a w ((Instr.buildSlice t n vs).run P w) o:=by
    intro rc us hrc hlen hsz hfill ho
    unfold zfC at ho
    split at ho
    ·rename_i hd
     cases ho
     have hn:=R.newRow hd hrc e n true (us:=[]) (by omega) (fun _=>hlen.symm) (by rw[hlen]; simp)
     rw[hlen,List.append_nil]at hn
     refine ⟨_,_,S,_,?_,by rw[zc0]; exact hn.1.filter_nil,by rw[zc0]; exact hn.2⟩
     rw[zsT w t e n vs us.toArray i v hu h1 h2 hsmall (Array.replicate (n*i.size) undef) (by simp) hfill]
     rfl
    ·cases ho
   split at hr
   ·rename_i k' hk
    split at hr
    ·rename_i hs1
     simp only[beq_iff_eq]at hs1
     rw[hsi]at hs1
     have hs1:=Option.some.inj hs1
     simp only[Option.bind_eq_some_iff]at hr
     obtain ⟨ys,hys,hr⟩:=hr
     refine fin _ _ (.s k' ys) (by simp[RC.len,zy4 hys,c1]) (by simp[RC.sz,hs1]) (fun c hc=>?_) hr
     have:=zGo hxs hys hf (X:=[]) (Y:=c.toList) rfl (by simp[hc,hs1,c1])
     rw[hs1]
     simpa using this
    ·cases hr
   ·simp only[Option.bind_eq_some_iff]at hr
    obtain ⟨s,hs,hr⟩:=hr
    rw[hsi]at hs
    cases hs
    split at hr
    ·rename_i hp
     simp only[Option.bind_eq_some_iff]at hr
     obtain ⟨ys,hys,hr⟩:=hr
     obtain ⟨us,q1,q2,q3⟩:=zGC hxs hys hf
     refine fin _ us (.p q2 q1) (by simp[RC.len,zAY hys,c1]) rfl (fun c hc=>?_) hr
     simpa using q3 [] c.toList (by simp) (by simp[hc,c1])
    ·cases hr
  ·cases hr
 ·cases hr
theorem RepT.at:∀ {xs:List A} {us:List Value} {i:Nat} {y:A},RepT β S h L xs us→xs[i]?=some y→∃ u,us[i]?=some u∧RepA β S h L y u
 | _,_,i,y,.nil,e=>by simp at e
 | _,_,0,y,.cons a r,e=>by simp at e; subst e; exact ⟨_,rfl,_,a,rfl⟩
 | _,_,i+1,y,.cons a r,e=>by
  obtain ⟨u,h1,h2⟩:=RepT.at r (i:=i) (by simpa using e)
  exact ⟨u,by simpa using h1,h2⟩
theorem zti {x y:A} {i:Nat} {v:Value} (hr:zsz x i=some y) (hx:RepA β S h L x v):∃ u,(Instr.extract v i).run P w=.ok u w∧RepA β S h L y u:=by
 cases x<;>simp[zsz]at hr
 rename_i xs
 obtain ⟨vs,rx,ev⟩:=hx
 cases rx with
 | tup r =>
  rename_i us
  obtain ⟨u,h1,h2⟩:=r.at hr
  refine ⟨u,?_,h2⟩
  rw[ev]
  simp[Instr.extract,pack,A.isAgg,h1]
theorem zfV (n:Nat):RepA β S h L (intA n) (goInt n):=RepA.sc .i (n:Int)
theorem zFt {N0:Nat} {F:Nat→Prop} (M:MS β S h N0 F L) {x:A} {n:Nat} {v:Value} (hr:lenA L x=some n) (hx:RepA β S h L x v):∃ a cap,v=.slice a n cap∧n≤cap:=by
 obtain ⟨vs,rx,ev⟩:=hx
 unfold lenA at hr
 split at hr
 ·simp only[Option.bind_eq_some_iff]at hr
  obtain ⟨b,hL,hr⟩:=hr
  split at hr
  ·cases hr
   obtain ⟨a,cap,g1,g2,_⟩:=M.blk _ _ hL
   cases rx with
   | o e1 e2=>exact ⟨a,cap,by rw[ev,←g1]; rfl,g2⟩
  ·cases hr
 ·cases hr
  cases rx with
  | vw e1 e2 e4 e5 e6 e7 e8=>exact ⟨_,_,by rw[ev]; rfl,e6⟩
 ·cases hr
  cases rx with
  | pv r=>cases r with
   | sl h1 h2=>exact ⟨_,_,by rw[ev]; rfl,h1⟩
 ·cases hr
  cases rx with
  | pv r=>cases r with
   | sp h1 h2=>exact ⟨_,_,by rw[ev]; rfl,h1⟩
 ·cases hr
theorem zEV {N0:Nat} {F:Nat→Prop} (M:MS β S h N0 F L) {x:A} {n:Nat} {v:Value} (hr:capA L x=some n) (hx:RepA β S h L x v):∃ a l,v=.slice a l n:=by
 obtain ⟨vs,rx,ev⟩:=hx
 unfold capA at hr
 split at hr
 ·simp only[Option.bind_eq_some_iff]at hr
  obtain ⟨b,hL,hr⟩:=hr
  split at hr
  ·cases hr
   obtain ⟨a,cap,g1,g2,g3,_⟩:=M.blk _ _ hL
   cases rx with
   | o e1 e2=>exact ⟨a,_,by rw[ev,←g3 rfl,←g1]; rfl⟩
  ·cases hr
 ·cases hr
  cases rx with
  | vw e1 e2 e4 e5 e6 e7 e8=>exact ⟨_,_,by rw[ev,←(e7 _ rfl).1]; rfl⟩
 ·cases hr
theorem zBd {N0:Nat} {F:Nat→Prop} (M:MS β S w.heap N0 F L) {t ty:TypeId} {x y:A} {v:Value} {ts:Array TypeId} (ht:ts[0]?=some t) (hr:zEj P L t x=some y) (hx:RepA β S w.heap L x v) :
  ∃ u,(Builtin.len_ ts ty #[v]).run P w=.ok u w∧RepA β S w.heap L y u:=by
 unfold zEj at hr
 split at hr
 ·rename_i e hu
  simp only[Option.map_eq_some_iff]at hr
  obtain ⟨n,hn,rfl⟩:=hr
  obtain ⟨a,cap,rfl,_⟩:=zFt M hn hx
  exact ⟨goInt n,by simp[Builtin.len_,ht,run_underlying hu],zfV n⟩
 ·rename_i n e hu
  cases hr
  exact ⟨goInt n,by simp[Builtin.len_,ht,run_underlying hu],zfV n⟩
 ·rename_i u hu
  split at hr
  ·rename_i n e hu2
   cases hr
   exact ⟨goInt n,by simp[Builtin.len_,ht,run_underlying hu,run_underlying hu2],zfV n⟩
  ·cases hr
 ·cases hr
theorem zBT {N0:Nat} {F:Nat→Prop} (M:MS β S w.heap N0 F L) {t ty:TypeId} {x y:A} {v:Value} {ts:Array TypeId} (ht:ts[0]?=some t) (hr:zEy P L t x=some y) (hx:RepA β S w.heap L x v) :
  ∃ u,(Builtin.cap_ ts ty #[v]).run P w=.ok u w∧RepA β S w.heap L y u:=by
 unfold zEy at hr
 split at hr
 ·rename_i e hu
  simp only[Option.map_eq_some_iff]at hr
  obtain ⟨n,hn,rfl⟩:=hr
  obtain ⟨a,l,rfl⟩:=zEV M hn hx
  exact ⟨goInt n,by simp[Builtin.cap_,ht,run_underlying hu],zfV n⟩
 ·rename_i n e hu
  cases hr
  exact ⟨goInt n,by simp[Builtin.cap_,ht,run_underlying hu],zfV n⟩
 ·rename_i u hu
  split at hr
  ·rename_i n e hu2
   cases hr
   exact ⟨goInt n,by simp[Builtin.cap_,ht,run_underlying hu,run_underlying hu2],zfV n⟩
  ·cases hr
 ·cases hr
theorem zp2 {N0:Nat} {F:Nat→Prop} (M:MS β S w.heap N0 F L) {x:A} {rc:RC} {v:Value} (hr:ze0 L x=some rc) (hx:RepA β S w.heap L x v) :
  ∃ ad cap vs,v=.slice ad rc.len cap∧rc.len≤cap∧RepRC S w.heap rc vs∧(rc.len=0∨∃ b off,ad=some ⟨b,off,none⟩∧CellsAt w.heap b off vs∧(S b∨∃ n blk,L n=some blk∧fp (β n) b)):=by
 obtain ⟨us,rx,ev⟩:=hx
 unfold ze0 at hr
 split at hr
 ·simp only[Option.bind_eq_some_iff]at hr
  obtain ⟨b,hL,hr⟩:=hr
  split at hr
  ·cases hr
   obtain ⟨a,cap,g1,g2,g3,g4⟩:=M.blk _ _ hL
   cases rx with
   | o e1 e2 =>
    rcases g4 with g4 | ⟨b,o,cs,T,q1,q2,q3,X,vs,Y,q4,q5,q6⟩
    ·have h0:rc.len=0:=by omega
     cases rc with
     | s k xs =>
      have:xs=[]:=List.length_eq_zero_iff.1 h0
      subst this
      exact ⟨a,cap,[],by rw[ev,←g1]; rfl,g2,.s k [],.inl rfl⟩
     | p sz xs =>
      have:xs=[]:=List.length_eq_zero_iff.1 h0
      subst this
      exact ⟨a,cap,[],by rw[ev,←g1]; rfl,g2,.p (by simp) .nil,.inl rfl⟩
    ·by_cases h0:rc.len=0
     ·exact ⟨a,cap,vs,by rw[ev,←g1]; rfl,g2,q6,.inl h0⟩
     ·refine ⟨a,cap,vs,by rw[ev,←g1]; rfl,g2,q6,.inr ⟨b,o,q1,?_,.inr ⟨_,_,hL,by rw[g1,q1]; exact ⟨by omega,rfl⟩⟩⟩⟩
      rw[←q5]
      exact CellsAt.of_list q2 q4
  ·cases hr
 ·simp only[Option.bind_eq_some_iff,Option.map_eq_some_iff]at hr
  obtain ⟨blk,hL,rc0,hrc,rfl⟩:=hr
  cases rx with
  | vw e1 e2 e4 e5 e6 e7 e8 =>
   rename_i n π off len cap blk' N sz cp a
   rw[hL]at e1; cases e1
   rw[Blk.elems_len,hrc]at e4
   simp only[Option.map_some,Option.some.injEq,Prod.mk.injEq]at e4
   obtain ⟨rfl,rfl⟩:=e4
   have hlen:(rc0.sub off len).len=len:=by
    cases rc0<;>simp[RC.sub,RC.len]at e5 ⊢<;>omega
   by_cases h0:len=0
   ·subst h0
    refine ⟨a,cp,[],by rw[ev,hlen]; rfl,by rw[hlen]; exact e6,?_,.inl hlen⟩
    cases rc0 with
    | s k xs=>simp only[RC.sub,List.take_zero]; exact .s k []
    | p sz xs=>simp only[RC.sub,List.take_zero]; exact .p (by simp) .nil
   ·rcases e8 with e8 | ⟨b,o,e3,rfl⟩
    ·omega
    ·obtain ⟨vs',cs,T,X,Y,g1,g2,g0,g3,g4⟩:=zDp M hL e2 e3 hrc (by omega)
     obtain ⟨X',us,Y',f1,f2,f3⟩:=g1.sub off len e5
     have hc:=(CellsAt.of_list g2 g3).sub f1
     rw[g4,f2]at hc
     exact ⟨_,cp,us,by rw[ev,hlen]; rfl,by rw[hlen]; exact e6,f3,.inr ⟨b,_,rfl,hc,.inr ⟨_,_,hL,g0⟩⟩⟩
 ·cases hr
  rename_i k xs
  cases rx with
  | pv r=>cases r with
   | sl h1 h2 =>
    refine ⟨_,_,xs.map k.enc,by rw[ev]; rfl,h1,.s k xs,?_⟩
    rcases h2 with h2 | ⟨b,off,h2,hS,h3⟩
    ·left; rw[h2]; rfl
    ·right; exact ⟨b,off,h2,h3,.inl hS⟩
 ·cases hr
  rename_i sz xs
  cases rx with
  | pv r=>cases r with
   | sp h1 h2 h3 h4 =>
    refine ⟨_,_,_,by rw[ev]; rfl,h1,.p h2 h3,?_⟩
    rcases h4 with h4 | ⟨b,off,h4,hS,h5⟩
    ·left; rw[h4]; rfl
    ·right; exact ⟨b,off,h4,h5,.inl hS⟩
 ·cases hr
theorem zky {N0:Nat} {F:Nat→Prop} (M:MS β S w.heap N0 F L) {x:A} {rc:RC} {v:Value} (hr:ze0 L x=some rc) (hx:RepA β S w.heap L x v) :
  ∃ ad cap vs,v=.slice ad rc.len cap∧rc.len≤cap∧RepRC S w.heap rc vs∧(rc.len=0∨∃ b off,ad=some ⟨b,off,none⟩∧CellsAt w.heap b off vs):=by
 obtain ⟨ad,cap,vs,h1,h2,h3,h4⟩:=zp2 M hr hx
 exact ⟨ad,cap,vs,h1,h2,h3,h4.imp id fun ⟨b,off,g1,g2,_⟩=>⟨b,off,g1,g2⟩⟩
theorem zB6 {N0:Nat} {F:Nat→Prop} (M:MS β S w.heap N0 F L) {t:TypeId} {x r:A} (hr:zs2 P L t x=some r) {v:Value} (hx:RepA β S w.heap L x v) :
  ∃ u,(Instr.arrayAt t v).run P w=.ok u w∧RepA β S w.heap L r u:=by
 unfold zs2 at hr
 split at hr
 ·rename_i n e hu
  simp only[Option.bind_eq_some_iff]at hr
  obtain ⟨s,hs,hr⟩:=hr
  have run:∀ (ad:Option Addr) (len cap:Nat),n≤len→(Instr.arrayAt t (.slice ad len cap)).run P w=.ok (.pointer ad) w:=by
   intro ad len cap hle
   simp only[Instr.arrayAt,Sem.run_bind,run_underlying hu,Result.andThen_ok,Sem.run_ite]
   rw[if_neg (by omega)]
   rfl
  obtain ⟨us,rx,ev⟩:=hx
  split at hr
  ·rename_i k xs
   split at hr
   ·split at hr
    ·rename_i hn
     cases hr
     cases rx with
     | pv q =>
      cases q with
      | sl h1 h2 =>
       rename_i a cap
       refine ⟨.pointer a,by rw[ev]; exact run _ _ _ hn.1,?_⟩
       rcases h2 with h2 | ⟨b,off,rfl,h3,h4⟩
       ·subst h2; simp at hn; omega
       ·obtain ⟨X,us,Y,f1,f2,f3⟩:=(RepRC.s (S:=S) (h:=w.heap) k xs).sub 0 n (by simpa [RC.len] using hn.1)
        have hc:=h4.sub f1
        rw[f2]at hc
        exact ⟨_,.rp h3 (by simpa using hc) (f3.arr (by simpa [RC.len] using hn.1)),rfl⟩
    ·cases hr
   ·cases hr
  ·rename_i m π off len cp
   simp only[Option.bind_eq_some_iff]at hr
   obtain ⟨blk,hL,hr⟩:=hr
   split at hr
   ·rename_i N sz hl
    split at hr
    ·split at hr
     ·rename_i hn
      cases hr
      cases rx with
      | vw e1 e2 e4 e5 e6 e7 e8 =>
       rw[hL]at e1; cases e1
       rw[hl]at e4; cases e4
       rcases e8 with e8 | ⟨b,o,e3,rfl⟩
       ·omega
       ·exact ⟨_,by rw[ev]; exact run _ _ _ hn.1,_,.pr hL e2 e3 hl (by omega) hn.2,rfl⟩
     ·cases hr
    ·cases hr
   ·cases hr
  ·rename_i m
   simp only[Option.bind_eq_some_iff]at hr
   obtain ⟨blk,hL,hr⟩:=hr
   split at hr
   ·rename_i rc ex
    split at hr
    ·split at hr
     ·rename_i hn
      cases hr
      cases rx with
      | o e1 e2 =>
       obtain ⟨a,cap,g1,g2,g3,g4⟩:=M.blk _ _ hL
       rcases g4 with g4 | ⟨b,o,cs,T,q1,q2,q3,X,vs,Y,q4,q5,q6⟩
       ·omega
       ·subst q1
        refine ⟨.pointer (some ⟨b,o,none⟩),by rw[ev,show pack (A.o m).isAgg [β m]=β m from rfl,g1]; exact run _ _ _ hn.1,?_⟩
        have off0:(Blk.row rc ex).off []=0:=by cases rc<;>rfl
        have:=RepC.pr (β:=β) (S:=S) (h:=w.heap) (n:=m) (π:=[]) (off:=0) (len:=n) hL trivial (b:=b) (o:=o) (N:=rc.len) (sz:=rc.sz) (by rw[g1]; rfl) rfl (by omega) hn.2
        rw[off0]at this
        exact ⟨_,by simpa using this,rfl⟩
     ·cases hr
    ·cases hr
   ·cases hr
  ·cases hr
 ·cases hr
end
end Go.Proofs.YtnolgfdjcipmmaaDoor.M
namespace Go.Proofs.YtnolgfdjcipmmaaDoor.M
open Go
section
variable {P:Program} {k:Wk} {β:Nat→Value} {S:Nat→Prop} {E:List (Nat × A)} {L:Nat→Option Blk} {a:Act} {w:World} {h:Array Obj}
structure News (P:Program) (w:World) (e:TypeId) (i:TypeInfo) (z:Value) (t1:TypeId) (x:Value) (n:Nat) (us:List Value):Prop where
 len:us.length=n*i.size
 one:∀ v ∈ us,v.oneCell'=true
 kind:(∃ e1 b c,P.underlying t1=some (.slice e1)∧x=.slice b n c∧(∀ w':World,w'.heap=w.heap→(Builtin.firstCells i.size n (.slice b n c)).run P w'=.ok us.toArray w')) ∨
  (∃ k1 k2,P.underlying t1=some (.int k1)∧x=.int k2 (n:Int)∧n≤2 ^ 62∧us=(Builtin.zeroCells z.cells n).toList)
theorem znE (z:Array Value) {n:Nat} (h:n*z.size=0):Builtin.zeroCells z n=#[]:=by
 unfold Builtin.zeroCells
 rw[h]; simp
theorem zqz {t t1 ty e:TypeId} {i:TypeInfo} {z x:Value} {n:Nat} {us:List Value} (hu:P.underlying t=some (.slice e)) (hi:P.info? e=some i) (hz:i.zero=some z) (hzs:z.cells.size=i.size)
  (N:News P w e i z t1 x n us) (hb:n*i.bytes≤room) (base:Option Addr) {sLen sCap:Nat} (hr:sLen+n≤sCap) :
  (Builtin.append_ #[t,t1] ty #[.slice base sLen sCap,x]).run P w =
   ((match base with | some a=>storeCells (a.add (sLen*i.size)) us | none=>pure ()).run P w).andThen fun _ w'=>.ok (.slice base (sLen+n) sCap) w':=by
 rcases N.kind with ⟨e1,b,c,h1,rfl,h2⟩ | ⟨k1,k2,h1,rfl,h2,h3⟩
 ·have hf:=h2 w rfl
  cases base with
  | none=>simp[Builtin.append_,run_underlying hu,run_underlying h1,sizeOf,typeInfo,hi,Builtin.lenOf,hr,hf,Result.andThen]
  | some ad=>simp[Builtin.append_,run_underlying hu,run_underlying h1,sizeOf,typeInfo,hi,Builtin.lenOf,hr,hf,Result.andThen]
 ·have wn:IntKind.i64.wrap (n:Int)=(n:Int):=by rw[IntKind.wrap_i64]; omega
  have n0:¬ ((n:Int) < 0):=by omega
  have hb':¬ ((281474976710656:Int) < (n:Int)*(i.bytes:Int)):=by
   have:room=70368744177664:=rfl
   rw[this]at hb
   have hb2:((n*i.bytes:Nat):Int)≤70368744177664:=by omega
   rw[Int.natCast_mul]at hb2
   omega
  by_cases h0:n*i.size=0
  ·have hus:us=[]:=by rw[h3,znE _ (by rw[hzs]; exact h0)]
   subst hus
   cases base with
   | none=>simp[Builtin.append_,run_underlying hu,run_underlying h1,sizeOf,typeInfo,hi,asInt,asIntOf,wn,hb',n0,hr,h0,Result.andThen]
   | some ad=>simp[Builtin.append_,run_underlying hu,run_underlying h1,sizeOf,typeInfo,hi,asInt,asIntOf,wn,hb',n0,hr,h0,Result.andThen]
  ·cases base with
   | none=>simp[Builtin.append_,run_underlying hu,run_underlying h1,sizeOf,typeInfo,zeroValue,hi,hz,asInt,asIntOf,wn,hb',n0,hr,h0,Result.andThen]
   | some ad=>simp[Builtin.append_,run_underlying hu,run_underlying h1,sizeOf,typeInfo,zeroValue,hi,hz,asInt,asIntOf,wn,hb',n0,hr,h0,h3,Result.andThen]
theorem zAr {t t1 ty e:TypeId} {i:TypeInfo} {z x:Value} {n:Nat} {us olds:List Value} (hu:P.underlying t=some (.slice e)) (hi:P.info? e=some i) (hz:i.zero=some z) (hzs:z.cells.size=i.size)
  (N:News P w e i z t1 x n us) (base:Option Addr) {sLen sCap:Nat} (hb:(sLen+n)*i.bytes≤room) (hlen:sLen+n≤room) (hr:sCap < sLen+n)
  (ho:(Builtin.firstCells i.size sLen (.slice base sLen sCap)).run P w.drew=.ok olds.toArray w.drew) :
  (Builtin.append_ #[t,t1] ty #[.slice base sLen sCap,x]).run P w =
   .ok (.slice (some ⟨w.heap.size,0,none⟩) (sLen+n) (grownCap w (sLen+n) sCap e))
    (w.drew.alloc (.cells (olds++us++(Builtin.zeroCells z.cells (grownCap w (sLen+n) sCap e - (sLen+n))).toList).toArray e)):=by
 have rm:room=70368744177664:=rfl
 rw[rm]at hb hlen
 have hn:¬ (sLen+n≤sCap):=by omega
 have h63':¬ (9223372036854775807 < ((sLen:Int)+(n:Int))):=by omega
 have h48':¬ (281474976710656 < Builtin.nextslicecap (sLen+n) sCap*i.bytes):=by
  have:=growslice_fits (bytes:=i.bytes) hr (by omega)
  omega
 have fin:∀ A B C:Array Value,(A++B++C)=(A.toList++(B.toList++C.toList)).toArray:=fun A B C=>by apply Array.ext'; simp
 rcases N.kind with ⟨e1,b,c,h1,rfl,h2⟩ | ⟨k1,k2,h1,rfl,h2,h3⟩
 ·have hf:=h2 w.drew rfl
  simp[Builtin.append_,run_underlying hu,run_underlying h1,sizeOf,typeInfo,zeroValue,hi,hz,Builtin.lenOf,hn,h63',h48',Question.forced,hf,ho,newRow,grownCap]
  congr 2
  apply Array.ext'; simp[List.append_assoc]
 ·have wn:IntKind.i64.wrap (n:Int)=(n:Int):=by rw[IntKind.wrap_i64]; omega
  have n0:¬ ((n:Int) < 0):=by omega
  have hb':¬ ((281474976710656:Int) < (n:Int)*(i.bytes:Int)):=by
   have hb2:(((sLen+n)*i.bytes:Nat):Int)≤70368744177664:=by omega
   have hb3:n*i.bytes≤(sLen+n)*i.bytes:=Nat.mul_le_mul_right _ (by omega)
   have hb4:((n*i.bytes:Nat):Int)≤70368744177664:=by omega
   rw[Int.natCast_mul]at hb4
   omega
  by_cases h0:n*i.size=0
  ·have hus:us=[]:=by rw[h3,znE _ (by rw[hzs]; exact h0)]
   subst hus
   simp[Builtin.append_,run_underlying hu,run_underlying h1,sizeOf,typeInfo,zeroValue,hi,hz,asInt,asIntOf,wn,hb',n0,hn,h63',h48',h0,Question.forced,ho,newRow,grownCap]
   try (congr 2; apply Array.ext'; simp[List.append_assoc])
  ·simp[Builtin.append_,run_underlying hu,run_underlying h1,sizeOf,typeInfo,zeroValue,hi,hz,asInt,asIntOf,wn,hb',n0,hn,h63',h48',h0,h3,Question.forced,ho,newRow,grownCap]
   try (congr 2; apply Array.ext'; simp[List.append_assoc])
theorem RepRC.one {rc:RC} {vs:List Value} (r:RepRC S h rc vs):∀ v ∈ vs,v.oneCell'=true:=by
 cases r with
 | s k xs =>
  intro v hv
  simp at hv
  obtain ⟨x,_,rfl⟩:=hv
  exact zxX _ _
 | p e r=>exact r.one
theorem RC.app_sound {x y r:RC} {vs us:List Value} (e:x.app y=some r) (hx:RepRC S h x vs) (hy:RepRC S h y us) :
  RepRC S h r (vs++us)∧r.len=x.len+y.len∧r.sz=x.sz∧y.sz=x.sz:=by
 cases hx with
 | s k xs =>
  cases hy with
  | s k' ys =>
   cases k<;>cases k'<;>simp only[RC.app]at e<;>first | (cases e; done) | skip
   all_goals
    simp only[Option.some.injEq]at e
    subst e
    refine ⟨?_,by simp[RC.len],rfl,rfl⟩
    rw[←List.map_append]
    exact .s _ _
  | p _ _=>cases k<;>simp[RC.app]at e
 | p e1 r1 =>
  cases hy with
  | s k' ys=>cases k'<;>simp[RC.app]at e
  | p e2 r2 =>
   rename_i a xs b ys
   simp only[RC.app]at e
   split at e
   ·rename_i hab
    rw[nbeq]at hab
    subst hab
    simp only[Option.some.injEq]at e
    subst e
    refine ⟨.p ?_ ?_,by simp[RC.len],rfl,rfl⟩
    ·intro z hz
     rcases List.mem_append.1 hz with hz | hz
     ·exact e1 z hz
     ·exact e2 z hz
    ·clear e1 e2
     induction r1 using RepL.rec (motive_1:=fun _ _ _=>True) with
     | nil=>exact r2
     | cons a r ih1 ih2=>rw[List.cons_append,List.append_assoc]; exact .cons a ih2
     | _=>trivial
   ·cases e
theorem zDi {ad:Option Addr} {rc:RC} {vs:List Value} {cap:Nat} {size:Nat} (hl:vs.length=rc.len*size) (hc:rc.len=0∨∃ b off,ad=some ⟨b,off,none⟩∧CellsAt w.heap b off vs) (w':World) (hw:w'.heap=w.heap) :
  (Builtin.firstCells size rc.len (.slice ad rc.len cap)).run P w'=.ok vs.toArray w':=by
 rcases hc with h0 | ⟨b,off,rfl,hc⟩
 ·rw[h0,Nat.zero_mul,List.length_eq_zero_iff]at hl
  subst hl
  cases ad with
  | none=>rfl
  | some ad=>rw[h0]; exact run_firstCells_some w' size 0 ad 0 cap [] (by simp) (by simp)
 ·refine run_firstCells_some w' size rc.len ⟨b,off,none⟩ rc.len cap vs hl (fun j v hv=>?_)
  rw[zel]
  have hc':CellsAt w'.heap b off vs:=by rw[hw]; exact hc
  exact hc'.cell hv
theorem zIN {N0:Nat} {F:Nat→Prop} (M:MS β S w.heap N0 F L) {e t1:TypeId} {zeros:Bool} {y:A} {u:Value} {ry:RC} {i:TypeInfo} {z:Value} (hk:zrL P t1=some zeros) (ha:zhL P L e zeros y=some ry)
  (hy:RepA β S w.heap L y u) (hi:P.info? e=some i) (hz:i.zero=some z) (hsz:ry.sz=i.size):∃ us,News P w e i z t1 u ry.len us∧RepRC S w.heap ry us:=by
 cases zeros with
 | false =>
  have hk':∃ e1,P.underlying t1=some (.slice e1):=by
   unfold zrL at hk
   split at hk
   ·cases hk
   ·rename_i e1 h1; exact ⟨e1,h1⟩
   ·cases hk
  obtain ⟨e1,h1⟩:=hk'
  obtain ⟨ad,cap,vs,rfl,q1,q2,q3⟩:=zky M ha hy
  have hl:vs.length=ry.len*i.size:=by rw[q2.size,hsz]
  exact ⟨vs,⟨hl,q2.one,.inl ⟨e1,ad,cap,h1,rfl,fun w' hw=>zDi hl q3 w' hw⟩⟩,q2⟩
 | true =>
  have hk':∃ k1,P.underlying t1=some (.int k1):=by
   unfold zrL at hk
   split at hk
   ·rename_i e1 h1; exact ⟨e1,h1⟩
   ·cases hk
   ·cases hk
  obtain ⟨k1,h1⟩:=hk'
  simp only[zhL,cond_true,Option.bind_eq_some_iff]at ha
  obtain ⟨n,hn,ha⟩:=ha
  split at ha
  ·rename_i hc
   obtain ⟨k2,rfl⟩:=zjn hn hy
   obtain ⟨i',z',cs,g1,g2,g3,g4,g5,g6,g7,g8⟩:=zoL ha
   rw[hi]at g1; cases g1
   rw[hz]at g2; cases g2
   have e1:(Builtin.zeroCells z.cells n.toNat).toList=(List.replicate n.toNat cs).flatten:=by
    have:=zsx cs g4 n.toNat
    unfold Builtin.zeroCells
    rw[g3]
    simpa using this
   refine ⟨(List.replicate n.toNat cs).flatten,⟨by rw[zDo,g6,←hsz,g7],(g8 S w.heap).one,.inr ⟨k1,k2,h1,?_,by rw[g6]; omega,by rw[g6,e1]⟩⟩,g8 S w.heap⟩
   rw[g6]
   congr 1
   omega
  ·cases ha
theorem Rl.drew (R:Rl k β S E L a w):Rl k β S E L a w.drew:={ R with }
theorem Rl.kill (R:Rl k β S E L a w) (n:Nat) (hall:∀ m b,m≠n→L m=some b→b.all (zar [(n,none)])=true) :
  Rl k β S (E.filter fun p=>p.2.all (zar [(n,none)])) (fun m=>if m=n then none else L m) a w:=by
 have K:Keeps β β S S w.heap w.heap L (fun m=>if m=n then none else L m) (zar [(n,none)]):=by
  refine ⟨fun _ h=>h,fun _ _=>rfl,fun v m π hm blk hb=>⟨rfl,blk,?_,SameAt.refl _ _ _⟩⟩
  have hne:m≠n:=by
   intro e; subst e
   simp[zar]at hm
  rw[if_neg hne]; exact hb
 refine R.world K ?_ (Nat.le_refl _) (fun _ _ _=>rfl) (fun _ h=>.inl h) rfl rfl rfl
 refine R.mem.step K (fun _=>False) (Nat.le_refl _) ?_ (fun _ _ _ h=>h.elim) ?_
 ·intro m b hb _
  by_cases e:m=n
  ·rw[if_pos e]at hb; cases hb
  ·rw[if_neg e]at hb
   exact ⟨hb,rfl,hall m b e hb,fun _ _=>rfl⟩
 ·intro q hq
  refine ⟨R.mem.bound q hq,fun m b hb hf=>?_⟩
  by_cases e:m=n
  ·rw[if_pos e]at hb; cases hb
  ·rw[if_neg e]at hb
   exact (R.mem.own m b hb q hf).1 hq
end
end Go.Proofs.YtnolgfdjcipmmaaDoor.M
namespace Go.Proofs.YtnolgfdjcipmmaaDoor.M
open Go
section
variable {P:Program} {k:Wk} {β:Nat→Value} {S:Nat→Prop} {E:List (Nat × A)} {L:Nat→Option Blk} {a:Act} {w:World} {h:Array Obj}
theorem Rl.newEmpty (R:Rl k β S E L a w) {d:Nat} (hd:L d=none) {rc:RC} (h0:rc.len=0) (ex:Bool) (ad:Option Addr) :
  Rl k (upd β d (.slice ad 0 0)) S E (upd L d (some (.row rc ex))) a w∧RepA (upd β d (.slice ad 0 0)) S w.heap (upd L d (some (.row rc ex))) (.o d) (.slice ad 0 0):=by
 have K:Keeps β (upd β d (.slice ad 0 0)) S S w.heap w.heap L (upd L d (some (.row rc ex))) (fun _ _ _=>true):=by
  refine ⟨fun _ h=>h,fun _ _=>rfl,fun v' n π _ blk' hb=>?_⟩
  have hne:n≠d:=by intro e; subst e; rw[hd]at hb; cases hb
  exact ⟨zbh _ _ hne,blk',by rw[zbh _ _ hne]; exact hb,SameAt.refl _ _ _⟩
 have M:MS (upd β d (.slice ad 0 0)) S w.heap k.w0.heap.size k.F (upd L d (some (.row rc ex))):=by
  refine R.mem.step K (fun n=>n=d) (Nat.le_refl _) ?_ ?_ ?_
  ·intro n b hb hn
   rw[zbh _ _ hn]at hb
   exact ⟨hb,zbh _ _ hn,Blk.all_true b,fun q hq=>rfl⟩
  ·rintro n b hb rfl
   rw[zay]at hb
   cases hb
   refine ⟨⟨ad,0,by rw[zay,h0],by omega,fun _=>h0.symm,.inl rfl⟩,fun q hq=>?_⟩
   rw[zay]at hq
   cases ad with
   | none=>exact hq.elim
   | some x=>exact (hq.1 rfl).elim
  ·intro q hq
   refine ⟨R.mem.bound q hq,fun n b hb hf=>?_⟩
   by_cases e:n=d
   ·subst e
    rw[zay]at hf
    cases ad with
    | none=>exact hf.elim
    | some x=>exact (hf.1 rfl).elim
   ·rw[zbh _ _ e]at hb hf
    exact (R.mem.own n b hb q hf).1 hq
 refine ⟨?_,[_],.o (zay _ _ _) rfl,by rw[zay]; rfl⟩
 have:=R.world (w':=w) K M (Nat.le_refl _) (fun _ _ _=>rfl) (fun b hb=>.inl hb) rfl rfl rfl
 exact this.sub fun p hp=>by rw[List.mem_filter]; exact ⟨hp,A.all_true _⟩
def zkk (L:Nat→Option Blk) (n d:Nat) (b:Blk):Nat→Option Blk:=fun m=>if m=n then none else upd L d (some b) m
theorem Rl.moves (R:Rl k β S E L a w) {n d:Nat} {b0 b:Blk} (hn:L n=some b0) (hd:L d=none) {v':Value} {w':World} (hv:∀ q,fp v' q→fp (β n) q)
  (hq:∀ q,¬ fp (β n) q→w'.heap[q]?=w.heap[q]?) (hsz:w'.heap.size=w.heap.size) (hos:w'.os=w.os) (ht:w'.tape=w.tape) (ho:w'.output=w.output)
  (hall:∀ m b',zkk L n d b m=some b'→b'.all (zar [(n,none)])=true)
  (hok:(∀ b,S b→w'.heap[b]?=w.heap[b]?)→BlkOK (upd β d v') S w'.heap (zkk L n d b) d b) :
  Rl k (upd β d v') S (E.filter fun p=>p.2.all (zar [(n,none)])) (zkk L n d b) a w':=by
 have hnd:n≠d:=by intro e; subst e; rw[hn]at hd; cases hd
 have hS:∀ q,S q→w'.heap[q]?=w.heap[q]?:=fun q hs=>hq q fun hf=>(R.mem.own n b0 hn q hf).1 hs
 have K:Keeps β (upd β d v') S S w.heap w'.heap L (zkk L n d b) (zar [(n,none)]):=by
  refine ⟨fun _ h=>h,hS,fun v m π hm blk hb=>?_⟩
  have hne:m≠n:=by
   intro e; subst e
   simp[zar]at hm
  have hne':m≠d:=by intro e; subst e; rw[hd]at hb; cases hb
  exact ⟨zbh _ _ hne',blk,by unfold zkk; rw[if_neg hne,zbh _ _ hne']; exact hb,SameAt.refl _ _ _⟩
 have old:∀ m b',zkk L n d b m=some b'→m≠d→m≠n∧L m=some b':=by
  intro m b' hm hmd
  unfold zkk at hm
  split at hm
  ·cases hm
  ·rename_i e
   rw[zbh _ _ hmd]at hm
   exact ⟨e,hm⟩
 have M:MS (upd β d v') S w'.heap k.w0.heap.size k.F (zkk L n d b):=by
  refine R.mem.step K (fun m=>m=d) (by omega) ?_ ?_ ?_
  ·intro m b' hm hmd
   obtain ⟨e1,e2⟩:=old m b' hm hmd
   exact ⟨e2,zbh _ _ hmd,hall m b' hm,fun q hf=>hq q fun hf'=>R.mem.sep m n e1 (by rw[e2]; rfl) (by rw[hn]; rfl) q hf hf'⟩
  ·rintro m b' hm rfl
   have:b'=b:=by
    unfold zkk at hm
    rw[if_neg (Ne.symm hnd),zay]at hm
    exact (Option.some.inj hm).symm
   subst this
   refine ⟨hok hS,fun q hf=>?_⟩
   rw[zay]at hf
   have hf:=hv q hf
   have ho:=R.mem.own n b0 hn q hf
   refine ⟨by rw[hsz]; exact ho.2.1,ho.2.2,fun m' b'' hm' hne hf'=>?_⟩
   obtain ⟨e1,e2⟩:=old m' b'' hm' hne
   rw[zbh _ _ hne]at hf'
   exact R.mem.sep m' n e1 (by rw[e2]; rfl) (by rw[hn]; rfl) q hf' hf
  ·intro q hs
   refine ⟨by rw[hsz]; exact R.mem.bound q hs,fun m b' hm hf=>?_⟩
   by_cases e:m=d
   ·subst e
    rw[zay]at hf
    exact (R.mem.own n b0 hn q (hv q hf)).1 hs
   ·obtain ⟨e1,e2⟩:=old m b' hm e
    rw[zbh _ _ e]at hf
    exact (R.mem.own m b' e2 q hf).1 hs
 refine R.world K M (by omega) (fun q hlt hnf=>hq q fun hf=>?_) (fun b hb=>.inl hb) hos ht ho
 rcases (R.mem.own n b0 hn q hf).2.2 with h | h
 ·omega
 ·exact hnf h
theorem zhj {n d:Nat} {b:Blk} {x:A} (hnd:n≠d):({ val:=x,upd:=[(d,b)],cut:=[(n,none)] }:Out).mem L=zkk L n d b:=by
 funext m
 simp only[Out.mem,za5,List.any_cons,List.any_nil,Bool.or_false,zaD,zkk,upd]
 by_cases e:m=n
 ·subst e; simp
 ·have:Nat.beq m n=false:=by
   cases hh:Nat.beq m n with
   | false=>rfl
   | true=>exact absurd (nbeq.1 hh) e
  rw[this,if_neg e]
  simp only[Bool.false_eq_true,if_false]
  by_cases e2:d=m
  ·subst e2; simp
  ·rw[if_neg e2,if_neg (fun h=>e2 h.symm)]; rfl
theorem RC.app_sz {x y r:RC} (e:x.app y=some r):r.sz=x.sz∧y.sz=x.sz:=by
 cases x with
 | s k xs =>
  cases y with
  | s k' ys=>cases k<;>cases k'<;>simp only[RC.app]at e<;>first | (cases e; done) | (cases e; exact ⟨rfl,rfl⟩)
  | p _ _=>cases k<;>simp[RC.app]at e
 | p a xs =>
  cases y with
  | s k' ys=>simp[RC.app]at e
  | p b ys =>
   simp only[RC.app]at e
   split at e
   ·rename_i hab
    rw[nbeq]at hab
    subst hab
    cases e
    exact ⟨rfl,rfl⟩
   ·cases e
theorem ztS (R:Rl k β S E L a w) {d:Nat} {t t1 ty:TypeId} {nilc:Bool} {x y:A} {v u:Value} {o:Out} (ho:zeV P L d t t1 nilc x y=some o)
  (hx:nilc=false→RepA β S w.heap L x v) (hn:nilc=true→v=.slice none 0 0) (hy:RepA β S w.heap L y u)
  (hall:∀ m b',o.mem L m=some b'→b'.all (zar o.cut)=true) :
  Does k β S E L a w ((Builtin.append_ #[t,t1] ty #[v,u]).run P w) o:=by
 unfold zeV at ho
 split at ho
 ·rename_i e hu
  simp only[Option.bind_eq_some_iff]at ho
  obtain ⟨zeros,hk,rx,hrx,ry,hry,r,hr,ho⟩:=ho
  split at ho
  ·rename_i hc
   simp only[Bool.and_eq_true,beq_iff_eq,nbeq]at hc
   obtain ⟨⟨⟨c1,c2⟩,c3⟩,c4⟩:=hc
   have c2:=Nat.le_of_ble_eq_true c2
   obtain ⟨z0,hz0⟩:=Option.isSome_iff_exists.1 c4
   obtain ⟨i,z,cs,h1,h2,h3,h4,h5,h6,h7⟩:=zfp hz0
   have hsi:i.size=r.sz:=by
    have:szT P e=some i.size:=by simp[szT,h1]
    rw[this]at c1
    exact Option.some.inj c1
   have hzs:z.cells.size=i.size:=by
    have:=(h4 S w.heap).size
    rw[c1]at h7
    have:=Option.some.inj h7
    rw[h3,List.size_toArray]
    omega
   split at ho
   ·rename_i hroom
    have hold:∃ ad cap vs,v=.slice ad rx.len cap∧rx.len≤cap∧RepRC S w.heap rx vs∧(rx.len=0∨∃ b off,ad=some ⟨b,off,none⟩∧CellsAt w.heap b off vs):=by
     cases nilc with
     | false=>exact zky R.mem hrx (hx rfl)
     | true =>
      have hv:=hn rfl
      subst hv
      simp only[cond_true]at hrx
      have:rx.len=0∧RepRC S w.heap rx []:=by
       unfold zgs at hrx
       split at hrx
       ·split at hrx
        ·cases hrx; exact ⟨rfl,.s _ []⟩
        ·cases hrx
       ·simp only[Option.bind_eq_some_iff]at hrx
        obtain ⟨s,_,hrx⟩:=hrx
        split at hrx
        ·cases hrx; exact ⟨rfl,.p (by simp) .nil⟩
        ·cases hrx
      exact ⟨none,0,[],by rw[this.1],by omega,this.2,.inl this.1⟩
    obtain ⟨ad,cap,vs,rfl,l1,l2,l3⟩:=hold
    have hryz:ry.sz=i.size:=by
     obtain ⟨e3,e4⟩:=RC.app_sz hr
     omega
    obtain ⟨us,N,n2⟩:=zIN R.mem hk hry hy h1 h2 hryz
    obtain ⟨a1,a2,a3,a4⟩:=RC.app_sound hr l2 n2
    have hby:zmc P e=i.bytes:=by simp[zmc,h1]
    rw[hby,a2]at hroom
    have hrsz:rx.sz=i.size:=by omega
    have hvl:vs.length=rx.len*i.size:=by rw[l2.size,hrsz]
    have hul:us.length=ry.len*i.size:=N.len
    have grow:cap < rx.len+ry.len→L d=none→∃ v' w',(Builtin.append_ #[t,t1] ty #[.slice ad rx.len cap,u]).run P w=.ok v' w' ∧
      Rl k (upd β d v') S E (upd L d (some (.row r false))) a w'∧RepA (upd β d v') S w'.heap (upd L d (some (.row r false))) (.o d) v':=by
     intro hg hd
     have hrun:=zAr (ty:=ty) hu h1 h2 hzs N ad hroom.1 hroom.2 hg (zDi hvl l3 w.drew rfl)
     have hge:=grownCap_ge w (rx.len+ry.len) cap e
     have hn:=(Rl.drew R).newRow hd a1 e (grownCap w (rx.len+ry.len) cap e) false (us:=(Builtin.zeroCells z.cells (grownCap w (rx.len+ry.len) cap e - (rx.len+ry.len))).toList)
      (by rw[a2]; exact hge) (fun hh=>by cases hh) (by rw[Array.length_toList,size_zeroCells,hzs,a2,←hsi])
     rw[a2]at hn
     exact ⟨_,_,hrun,hn.1,hn.2⟩
    cases nilc with
    | true =>
     have hv:=hn rfl
     simp only[Value.slice.injEq]at hv
     obtain ⟨rfl,hl0,rfl⟩:=hv
     simp only[cond_true,zfC]at ho
     split at ho
     ·rename_i hd
      cases ho
      by_cases hg:0 < rx.len+ry.len
      ·obtain ⟨v',w',g1,g2,g3⟩:=grow hg hd
       exact ⟨v',_,S,w',g1,by rw[zc0]; exact g2.filter_nil,by rw[zc0]; exact g3⟩
      ·have hr0:r.len=0:=by omega
       have hrun:=zqz (ty:=ty) hu h1 h2 hzs N (by
                                   have:ry.len=0:=by omega
                                   rw[this]; simp) none (sLen:=rx.len) (sCap:=0) (by omega)
       have he:rx.len+ry.len=0:=by omega
       rw[he]at hrun
       obtain ⟨g2,g3⟩:=R.newEmpty hd hr0 false none
       exact ⟨_,_,S,w,hrun,by rw[zc0]; exact g2.filter_nil,by rw[zc0]; exact g3⟩
     ·cases ho
    | false =>
     simp only[cond_false]at ho hrx
     replace hx:=hx rfl
     split at ho
     ·rename_i n hd
      cases ho
      simp only[ze0,Option.bind_eq_some_iff]at hrx
      obtain ⟨b0,hL,hrx⟩:=hrx
      split at hrx
      ·rename_i ex
       cases hrx
       have hnd:n≠d:=by intro e; subst e; rw[hL]at hd; cases hd
       rw[zhj hnd]at hall
       obtain ⟨xs',rxx,ev⟩:=hx
       have hβ:β n=.slice ad rx.len cap:=by
        cases rxx with
        | o e1 e2=>exact ev.symm
       by_cases hg:cap < rx.len+ry.len
       ·obtain ⟨v',w',g1,g2,g3⟩:=grow hg hd
        have hallk:∀ m b,m≠n→upd L d (some (.row r false)) m=some b→b.all (zar [(n,none)])=true:=fun m b hm hb=>hall m b (by unfold zkk; rw[if_neg hm]; exact hb)
        have g4:=g2.kill n hallk
        refine ⟨v',_,S,w',g1,by rw[zhj hnd]; exact g4,?_⟩
        rw[zhj hnd]
        obtain ⟨q1,q2,q3⟩:=g3
        have hbd:upd β d v' d=v':=zay _ _ _
        refine ⟨[v'],?_,rfl⟩
        have:=RepC.o (β:=upd β d v') (S:=S) (h:=w'.heap) (L:=zkk L n d (.row r false)) (n:=d) (blk:=.row r false) (by unfold zkk; rw[if_neg (Ne.symm hnd),zay]) rfl
        rw[hbd]at this
        exact this
       ·have hle:rx.len+ry.len≤cap:=by omega
        obtain ⟨ad',cap',k1,k2,k3,k4⟩:=R.mem.blk n _ hL
        rw[hβ]at k1
        simp only[Value.slice.injEq]at k1
        obtain ⟨rfl,_,rfl⟩:=k1
        have hby2:ry.len*i.bytes≤room:=Nat.le_trans (Nat.mul_le_mul_right _ (by omega)) hroom.1
        have hrun:=zqz (ty:=ty) hu h1 h2 hzs N hby2 ad hle
        have hrep:∀ (w':World),RepA (upd β d (.slice ad (rx.len+ry.len) cap)) S w'.heap (zkk L n d (.row r false)) (.o d) (.slice ad (rx.len+ry.len) cap):=by
         intro w'
         refine ⟨[_],?_,rfl⟩
         have:=RepC.o (β:=upd β d (.slice ad (rx.len+ry.len) cap)) (S:=S) (h:=w'.heap) (L:=zkk L n d (.row r false)) (n:=d) (blk:=.row r false) (by unfold zkk; rw[if_neg (Ne.symm hnd),zay]) rfl
         rw[zay]at this
         exact this
        have hfp:∀ q,fp (.slice ad (rx.len+ry.len) cap) q→fp (β n) q:=by
         intro q hq
         rw[hβ]
         cases ad with
         | none=>exact hq.elim
         | some x=>exact hq
        by_cases hc0:cap=0
        ·have hus:us=[]:=by
          have:ry.len=0:=by omega
          rw[this,Nat.zero_mul,List.length_eq_zero_iff]at hul
          exact hul
         subst hus
         have hrun':(Builtin.append_ #[t,t1] ty #[.slice ad rx.len cap,u]).run P w=.ok (.slice ad (rx.len+ry.len) cap) w:=by
          rw[hrun]
          cases ad<;>rfl
         refine ⟨_,_,S,w,hrun',?_,by rw[zhj hnd]; exact hrep w⟩
         rw[zhj hnd]
         exact R.moves hL hd hfp (fun _ _=>rfl) rfl rfl rfl rfl hall (fun _=>⟨ad,cap,by rw[zay,a2],by omega,(fun hh=>by cases hh),.inl hc0⟩)
        ·rcases k4 with k4 | ⟨b,off,bs,T,q1,q2,q3,X,vs2,Y,q4,q5,q6⟩
         ·omega
         ·subst q1
          have hv2:vs2.length=rx.len*i.size:=by rw[q6.size,hrsz]
          have hbl:bs.size=X.length+vs2.length+Y.length:=by
           have:=congrArg List.length q4
           simpa [Nat.add_assoc] using this
          rw[hrsz]at q3
          have hmul:(rx.len+ry.len)*i.size≤cap*i.size:=Nat.mul_le_mul_right _ hle
          rw[Nat.add_mul]at hmul
          have hst:=run_storeCells_at P b (off+rx.len*i.size) T us 0 bs w q2 (by omega) N.one
          simp only[Nat.add_zero]at hst
          have hcells:bs.toList.take (off+rx.len*i.size)++us++bs.toList.drop (off+rx.len*i.size+us.length)=X++(vs2++us)++Y.drop us.length:=by
           have hXv:off+rx.len*i.size=(X++vs2).length:=by rw[List.length_append,q5,hv2]
           rw[q4,hXv,List.take_left,←List.drop_drop,List.drop_left]
           simp
          rw[hcells]at hst
          have hrun':(Builtin.append_ #[t,t1] ty #[.slice (some ⟨b,off,none⟩) rx.len cap,u]).run P w=.ok (.slice (some ⟨b,off,none⟩) (rx.len+ry.len) cap) (w.setRow b (X++(vs2++us)++Y.drop us.length).toArray):=by
           rw[hrun]
           simp only[zel,hst,Result.andThen]
          have hheap:=zm2 (w:=w) (cs':=(X++(vs2++us)++Y.drop us.length).toArray) q2
          refine ⟨_,_,S,_,hrun',?_,by rw[zhj hnd]; exact hrep _⟩
          rw[zhj hnd]
          have hq':∀ q,¬ fp (β n) q→(w.setRow b (X++(vs2++us)++Y.drop us.length).toArray).heap[q]?=w.heap[q]?:=by
           intro q hq
           rw[hheap,if_neg]
           intro e; subst e
           exact hq (by rw[hβ]; exact ⟨hc0,rfl⟩)
          refine R.moves hL hd hfp hq' (by simp[World.setRow]) rfl rfl rfl hall (fun hS=>?_)
          refine ⟨some ⟨b,off,none⟩,cap,by rw[zay,a2],by omega,(fun hh=>by cases hh),.inr ⟨b,off,_,T,rfl,by rw[hheap,if_pos rfl],?_,X,vs2++us,Y.drop us.length,by simp,q5,?_⟩⟩
          ·rw[a3,hrsz]
           simp only[List.size_toArray,List.length_append,List.length_drop]
           omega
          ·have:=(RC.app_sound hr q6 n2).1
           exact this.mono (fun _ h=>h) hS
      ·cases hrx
     ·rename_i n π off len c hd
      split at ho
      ·rename_i hcc
       obtain ⟨rfl,hpos⟩:=hcc
       cases ho
       have hcap:cap=len∧rx.len=len:=by
        obtain ⟨xs',rxx,ev⟩:=hx
        cases rxx with
        | vw e1 e2 e4 e5 e6 e7 e8 =>
         have ev:Value.slice ad rx.len cap=Value.slice _ len _:=ev
         simp only[Value.slice.injEq]at ev
         rw[ev.2.2]
         exact ⟨(e7 _ rfl).1,ev.2.1⟩
       obtain ⟨v',w',g1,g2,g3⟩:=grow (by omega) hd
       exact ⟨v',_,S,w',g1,by rw[zc0]; exact g2.filter_nil,by rw[zc0]; exact g3⟩
      ·cases ho
     ·cases ho
   ·cases ho
  ·cases ho
 ·cases ho
end
end Go.Proofs.YtnolgfdjcipmmaaDoor.M
namespace Go.Proofs.YtnolgfdjcipmmaaDoor.M
open Go
section
variable {P:Program} {S:Nat→Prop} {h:Array Obj} {β:Nat→Value} {L:Nat→Option Blk} {w:World}
theorem zDa {k:EK} {x:k.T} {b:PV} {r:Bool} {D:Nat} {t:TypeId} (ht:(∃ q,P.underlying t=some (.int q))∧k≠.b∨P.underlying t=some .bool∧k=.b) (hr:eqSc (.sc k x) b=some r) {vs:List Value} (hb:RepPV S h b vs) :
  ∃ y:Value,vs=[y]∧b.isAgg=false∧(Op.equalIn (D+1) t (k.enc x) y).run P w=.ok r w:=by
 cases b with
 | sc k' y =>
  cases hb
  refine ⟨_,rfl,rfl,?_⟩
  cases k<;>cases k'<;>simp[eqSc]at hr<;>subst hr <;>
   (rcases ht with ⟨⟨q,hq⟩,hk⟩ | ⟨hq,hk⟩<;>first | (exact absurd rfl hk) | (cases hk) | skip)
  ·refine (run_equalIn_int w D t _ q _ _ hq).trans ?_
   congr 1
   rw[Bool.eq_iff_iff]; simp[←UInt8.toNat_inj]; omega
  ·refine (run_equalIn_int w D t _ q _ _ hq).trans ?_
   congr 1
   rw[Bool.eq_iff_iff]; simp[←UInt16.toNat_inj]; omega
  ·refine (run_equalIn_int w D t _ q _ _ hq).trans ?_
   congr 1
   rw[Bool.eq_iff_iff]; simp[←UInt32.toNat_inj]; omega
  ·refine (run_equalIn_int w D t _ q _ _ hq).trans ?_
   congr 1
   rw[Bool.eq_iff_iff]; simp[←UInt64.toNat_inj]; omega
  ·refine (run_equalIn_int w D t _ q _ _ hq).trans ?_
   congr 1
  ·refine (run_equalIn_bool' w D t _ _ hq).trans ?_
   congr 1
 | _=>cases k<;>simp[eqSc]at hr
theorem zJz {k:EK} {q:IntKind} {e:TypeId} {D:Nat} (hk:k≠.b) (hu:P.underlying e=some (.int q)) (x y:k.T) :
  ∃ r,(Op.equalIn (D+1) e (k.enc x) (k.enc y)).run P w=.ok r w∧(r=true↔k.enc x=k.enc y):=by
 cases k<;>first | (exact absurd rfl hk) | skip
 all_goals
  refine ⟨_,run_equalIn_int w D e _ q _ _ hu,?_⟩
  simp[EK.enc]
theorem zI2 {e:TypeId} {D:Nat} (hu:P.underlying e=some .bool) (x y:EK.b.T) :
  ∃ r,(Op.equalIn (D+1) e (EK.b.enc x) (EK.b.enc y)).run P w=.ok r w∧(r=true↔EK.b.enc x=EK.b.enc y):=by
 refine ⟨_,run_equalIn_bool' w D e _ _ hu,?_⟩
 simp[EK.enc]
theorem zIT {k:EK} {x y:k.T} (e:k.enc x=k.enc y):x=y:=by
 cases k<;>simp[EK.enc]at e
 ·exact UInt8.toNat_inj.1 (by omega)
 ·exact UInt16.toNat_inj.1 (by omega)
 ·exact UInt32.toNat_inj.1 (by omega)
 ·exact UInt64.toNat_inj.1 (by omega)
 ·exact e
 ·exact e
theorem zyz {k:EK} {e:TypeId} {D:Nat} (he:∀ x y:k.T,∃ r,(Op.equalIn (D+1) e (k.enc x) (k.enc y)).run P w=.ok r w∧(r=true↔k.enc x=k.enc y))
  (hs:szT P e=some 1) (hu:(P.underlying e).isSome=true) (ha:aggT P e=false):∀ (xs ys:List k.T) (X Y:List Value),xs.length=ys.length→X.length=Y.length →
  ∃ r:Bool,(Op.eqItems (D+1) e 1 (X++xs.map k.enc).toArray (Y++ys.map k.enc).toArray (List.range' X.length xs.length)).run P w=.ok r w∧(r=true↔xs=ys)
 | [],[],X,Y,_,_=>⟨true,rfl,by simp⟩
 | [],_ :: _,_,_,h,_=>by simp at h
 | _ :: _,[],_,_,h,_=>by simp at h
 | x :: xs,y :: ys,X,Y,h,hl=>by
  have p1:=zgB (P:=P) (w:=w) (t:=e) (cs:=X++(x :: xs).map k.enc) (X:=X) (us:=[k.enc x]) (Y:=xs.map k.enc) (by simp) hs hu (fun _=>rfl)
  have p2:=zgB (P:=P) (w:=w) (t:=e) (cs:=Y++(y :: ys).map k.enc) (X:=Y) (us:=[k.enc y]) (Y:=ys.map k.enc) (by simp) hs hu (fun _=>rfl)
  rw[ha,zw0]at p1 p2
  rw[←hl]at p2
  obtain ⟨r,g1,g2⟩:=zyz he hs hu ha xs ys (X++[k.enc x]) (Y++[k.enc y]) (by simpa using h) (by simp[hl])
  obtain ⟨r0,e0,e1⟩:=he x y
  simp only[List.length_cons,List.range'_succ,Op.eqItems,Sem.run_bind,Nat.mul_one,p1,p2,e0,Result.andThen_ok]
  cases r0 with
  | true =>
   have:=zIT (e1.1 rfl)
   subst this
   refine ⟨r,?_,by simp[g2]⟩
   simp only[Bool.not_true,Bool.false_eq_true,if_false]
   simpa using g1
  | false =>
   refine ⟨false,by simp,?_⟩
   simp only[Bool.false_eq_true,List.cons.injEq,false_iff,not_and]
   intro h; exact absurd (e1.2 (by rw[h])) (by simp)
theorem zrG {k:EK} {n:Nat} {v:Vector k.T n} {b:PV} {r:Bool} (hr:zyN (.arr k n v) b=some r):∃ v':Vector k.T n,b=.arr k n v'∧(r=true↔v.toList=v'.toList):=by
 cases b with
 | arr k' m v' =>
  cases k<;>cases k'<;>simp only[zyN]at hr<;>first | (cases hr; done) | skip
  all_goals
   split at hr
   ·rename_i hnm
    subst hnm
    simp only[Option.some.injEq]at hr
    subst hr
    exact ⟨v',rfl,by simp⟩
   ·cases hr
 | _=>cases k<;>simp[zyN]at hr
mutual
theorem zyu:∀ {a b:PV} {r:Bool},eqPV a b=some r→a.size=b.size
 | .st xs,b,r,e=>by
  cases b with
  | st ys =>
   simp only[eqPV]at e
   exact zvR e
  | _=>simp[eqPV]at e
 | .arr k n v,b,r,e=>by
  simp only[eqPV]at e
  obtain ⟨v',rfl,_⟩:=zrG e
  rfl
 | .sc k x,b,r,e=>by
  simp only[eqPV]at e
  cases b with
  | sc k' y=>rfl
  | _=>cases k<;>simp[eqSc]at e
 | .ar ..,b,r,e=>by simp[eqPV]at e
 | .sl ..,b,r,e=>by simp[eqPV]at e
 | .sp ..,b,r,e=>by simp[eqPV]at e
 | .nilp,b,r,e=>by simp[eqPV]at e
 | .nilm,b,r,e=>by simp[eqPV]at e
 | .raw _,b,r,e=>by simp[eqPV]at e
theorem zvR:∀ {as bs:List PV} {r:Bool},zgn as bs=some r→PV.sizeL as=PV.sizeL bs
 | [],[],r,e=>rfl
 | [],_ :: _,r,e=>by simp[zgn]at e
 | _ :: _,[],r,e=>by simp[zgn]at e
 | a :: as,b :: bs,r,e=>by
  simp only[zgn,Option.bind_eq_some_iff,Option.map_eq_some_iff]at e
  obtain ⟨r1,h1,r2,h2,_⟩:=e
  rw[PV.sizeL,PV.sizeL,zyu h1,zvR h2]
end
mutual
theorem zBf:∀ (d:Nat) {t:TypeId} {a b:PV} {r:Bool} {xs ys:List Value} (D:Nat),eqT P d t a=true→eqPV a b=some r→RepPV S h a xs→RepPV S h b ys →
  (Op.equalIn (D+d+1) t (pack a.isAgg xs) (pack b.isAgg ys)).run P w=.ok r w∧b.isAgg=a.isAgg
 | 0,t,a,b,r,xs,ys,D,ht,_,_,_=>by simp[eqT]at ht
 | d+1,t,a,b,r,xs,ys,D,ht,hr,ha,hb=>by
  unfold eqT at ht
  split at ht
  ·rename_i q k x hu
   simp only[eqPV]at hr
   simp only[decide_eq_true_eq]at ht
   cases ha
   obtain ⟨y,rfl,h2,h3⟩:=zDa (P:=P) (w:=w) (D:=D+d+1) (.inl ⟨⟨q,hu⟩,ht⟩) hr hb
   rw[h2]
   exact ⟨h3,rfl⟩
  ·rename_i x hu
   simp only[eqPV]at hr
   cases ha
   obtain ⟨y,rfl,h2,h3⟩:=zDa (P:=P) (w:=w) (D:=D+d+1) (.inr ⟨hu,rfl⟩) hr hb
   rw[h2]
   exact ⟨h3,rfl⟩
  ·rename_i n e k m v hu
   simp only[Bool.and_eq_true,beq_iff_eq,decide_eq_true_eq]at ht
   obtain ⟨⟨⟨rfl,c1⟩,c2⟩,c3⟩:=ht
   simp only[eqPV]at hr
   obtain ⟨v',rfl,hv⟩:=zrG hr
   cases ha; cases hb
   obtain ⟨i,hi⟩:∃ i,P.info? e=some i:=by
    cases hq:P.info? e with
    | none=>simp[szT,hq]at c1
    | some i=>exact ⟨i,rfl⟩
   have hc:P.cellsOf e=1:=by
    have:szT P e=some (P.cellsOf e):=by simp[szT,Program.cellsOf,hi]
    rw[this]at c1
    exact Option.some.inj c1
   have hue:(P.underlying e).isSome=true:=by
    unfold ekT at c2
    cases hq:P.underlying e with
    | none=>simp[hq]at c2
    | some u=>rfl
   have hk:∀ x y:k.T,∃ r,(Op.equalIn (D+d+1) e (k.enc x) (k.enc y)).run P w=.ok r w∧(r=true↔k.enc x=k.enc y):=by
    intro x y
    unfold ekT at c2
    cases hq:P.underlying e with
    | none=>simp[hq]at c2
    | some u =>
     rw[hq]at c2
     cases u with
     | bool =>
      simp[zpV]at c2
      subst c2
      exact zI2 hq x y
     | int q =>
      have hkb:k≠.b:=by
       intro e; subst e
       cases q<;>simp[zpV]at c2
      exact zJz hkb hq x y
     | _=>simp[zpV]at c2
   obtain ⟨r',g1,g2⟩:=zyz (P:=P) (w:=w) hk c1 hue c3 v.toList v'.toList [] [] (by simp) rfl
   have:r'=r:=by rw[Bool.eq_iff_iff,g2,hv]
   subst this
   refine ⟨?_,rfl⟩
   have hh:=run_equalIn_array (P:=P) (w:=w) (D+d+1) (t:=t) (v.toList.map k.enc).toArray (v'.toList.map k.enc).toArray hu hi
   rw[hc]at hh
   refine hh.trans ?_
   have:List.range n=List.range' ([]:List Value).length v.toList.length:=by simp[List.range_eq_range']
   rw[this]
   exact g1
  ·rename_i fs xs0 hu
   simp only[Bool.and_eq_true,Bool.not_eq_true']at ht
   cases b with
   | st ys0 =>
    simp only[eqPV]at hr
    cases ha with
    | st ha =>
     cases hb with
     | st hb =>
      refine ⟨?_,rfl⟩
      have hfs:P.fieldsOf t=fs:=by simp[Program.fieldsOf,hu]
      have:=run_equalIn_struct (P:=P) w (D+d+1) t xs.toArray ys.toArray (by rw[hfs]; exact hu) ht.1
      refine this.trans ?_
      rw[hfs]
      exact zDn d fs.toList D (off:=0) ht.2 hr ha hb [] [] rfl rfl
   | _=>simp[eqPV]at hr
  ·cases ht
theorem zDn:∀ (d:Nat) (fs:List Field) {as bs:List PV} {r:Bool} {us vs:List Value} (D:Nat) {off:Nat},eqT.go P d fs as off=true→zgn as bs=some r→RepL S h as us→RepL S h bs vs →
  ∀ X Y:List Value,X.length=off→Y.length=off→(Op.eqFields (D+d+1) (X++us).toArray (Y++vs).toArray fs).run P w=.ok r w
 | d,[],as,bs,r,us,vs,D,off,ht,hr,ha,hb,X,Y,hX,hY=>by
  cases as with
  | nil =>
   cases bs with
   | nil =>
    simp only[zgn,Option.some.injEq]at hr
    subst hr
    rfl
   | cons b bs=>simp[zgn]at hr
  | cons a as=>simp[eqT.go]at ht
 | d,f :: fs,as,bs,r,us,vs,D,off,ht,hr,ha,hb,X,Y,hX,hY=>by
  cases as with
  | nil=>simp[eqT.go]at ht
  | cons a as =>
   simp only[eqT.go,Bool.and_eq_true,beq_iff_eq,nbeq,decide_eq_true_eq]at ht
   obtain ⟨⟨⟨⟨⟨t1,t2⟩,t3⟩,t4⟩,t5⟩,t6⟩:=ht
   cases bs with
   | nil=>simp[zgn]at hr
   | cons b bs =>
    simp only[zgn,Option.bind_eq_some_iff,Option.map_eq_some_iff]at hr
    obtain ⟨r1,hr1,r2,hr2,rfl⟩:=hr
    cases ha with
    | cons ha has =>
     cases hb with
     | cons hb hbs =>
      rename_i va ua vb ub
      obtain ⟨q1,q2⟩:=zBf d (a:=a) (b:=b) D t5 hr1 ha hb
      have hsb:vb.length=va.length:=by
       rw[ha.size,hb.size]
       exact (zyu hr1).symm
      have hu:(P.underlying f.type).isSome=true:=by
       cases d with
       | zero=>simp[eqT]at t5
       | succ d =>
        unfold eqT at t5
        split at t5<;>rename_i hq<;>first | (cases t5; done) | (simp[hq])
      have p1:=zgB (P:=P) (w:=w) (t:=f.type) (cs:=X++(va++ua)) (X:=X) (us:=va) (Y:=ua) (by simp) (by rw[t3,ha.size]) hu (fun e=>ha.len1 (by rw[←t4,e]))
      have p2:=zgB (P:=P) (w:=w) (t:=f.type) (cs:=Y++(vb++ub)) (X:=Y) (us:=vb) (Y:=ub) (by simp) (by rw[t3,hsb,ha.size]) hu (fun e=>hb.len1 (by rw[q2,←t4,e]))
      rw[hX]at p1
      rw[hY]at p2
      rw[q2,←t4]at q1
      have ih:=zDn d fs D t6 hr2 has hbs (X++va) (Y++vb) (by simp[hX,ha.size]) (by simp[hY,hsb,ha.size])
      simp only[Op.eqFields,t1,ne_eq,not_false_eq_true,if_true,Sem.run_bind,t2,p1,p2,q1,Result.andThen_ok]
      cases r1 with
      | false=>simp
      | true=>simpa using ih
end
end
end Go.Proofs.YtnolgfdjcipmmaaDoor.M
namespace Go.Proofs.YtnolgfdjcipmmaaDoor.M
open Go
section
variable {P:Program} {S:Nat→Prop} {h:Array Obj} {β:Nat→Value} {L:Nat→Option Blk} {w:World}
theorem zGJ {op:BinOp} {t:TypeId} {ox oy:Operand} {a b:Value} (h1:op≠.eql) (h2:op≠.neq):(eqGuard op t ox oy a b).run P w=.ok () w:=by
 cases op<;>first | (exact absurd rfl h1) | (exact absurd rfl h2) | rfl
theorem zcp {op:BinOp} {t:TypeId} {ox oy:Operand} {a b:Value} (h1:∀ xs,a≠.agg xs) (h2:a≠.nilIface):(eqGuard op t ox oy a b).run P w=.ok () w:=by
 unfold eqGuard
 cases op<;>first | rfl | (cases a<;>first | (exact absurd rfl (h1 _)) | (exact absurd rfl h2) | rfl)
theorem zit (k:EK) (x:k.T):(∀ xs,k.enc x≠.agg xs)∧k.enc x≠.nilIface:=by
 cases k<;>simp[EK.enc]
def zsB (P:Program) (op:BinOp) (t:TypeId) (ox oy:Operand) (a b:Value) (w:World):Result Value :=
 ((do eqGuard op t ox oy a b; binOp op t a b):Sem Value).run P w
theorem zcC {op:BinOp} {t:TypeId} {ox oy:Operand} {a b:Value} (h1:(eqGuard op t ox oy a b).run P w=.ok () w):zsB P op t ox oy a b w=(binOp op t a b).run P w:=by
 simp only[zsB,Sem.run_bind,h1,Result.andThen_ok]
theorem zrO {t:TypeId} (hb:zHS P t=true) (x y:Bool):(binOp .eql t (.bool x) (.bool y)).run P w=.ok (.bool (decide (x=y))) w∧(binOp .neq t (.bool x) (.bool y)).run P w=.ok (.bool (!decide (x=y))) w:=by
 have hu:P.underlying t=some .bool:=by
  unfold zHS at hb
  split at hb
  ·assumption
  ·cases hb
 have:=run_equal_bool (P:=P) (w:=w) t x y hu
 have e:(x == y)=decide (x=y):=by rw[Bool.eq_iff_iff]; simp
 constructor<;>simp[binOp,this,e]
theorem zJF {t:TypeId} (hb:ptrT P t=true):∃ e,P.underlying t=some (.pointer e):=by
 unfold ptrT at hb
 split at hb
 ·exact ⟨_,by assumption⟩
 ·cases hb
theorem zfk {t:TypeId} (hb:ptrT P t=true) (p:Option Addr):(binOp .eql t (.pointer p) (.pointer none)).run P w=.ok (.bool p.isNone) w∧(binOp .neq t (.pointer p) (.pointer none)).run P w=.ok (.bool (!p.isNone)) w:=by
 obtain ⟨e,hu⟩:=zJF hb
 have h1:P.underlying t=some (.pointer (P.pointee t)):=by simp[Program.pointee,hu]
 have:=run_equalIn_pointer_nil (P:=P) (w:=w) 9999 t p h1
 constructor<;>simp[binOp,Op.equal,Op.maxDepth,this]
theorem zu8 {t:TypeId} {a b:PV} {r:Bool} {xs ys:List Value} (he:eqT P 12 t a=true) (hagg:a.isAgg=true) (hg:P.eqGuardType P.depth t=false) (hr:eqPV a b=some r) (ha:RepPV S h a xs) (hb:RepPV S h b ys) (ox oy:Operand) :
  zsB P .eql t ox oy (pack a.isAgg xs) (pack b.isAgg ys) w=.ok (.bool r) w∧zsB P .neq t ox oy (pack a.isAgg xs) (pack b.isAgg ys) w=.ok (.bool (!r)) w:=by
 obtain ⟨q1,q2⟩:=zBf (P:=P) (w:=w) 12 9987 he hr ha hb
 rw[q2,hagg]at q1 ⊢
 have q1:(Op.equalIn 10000 t (.agg xs.toArray) (.agg ys.toArray)).run P w=.ok r w:=q1
 constructor
 ·refine (zcC (run_eqGuard_agg w .eql t ox oy xs.toArray ys.toArray hg)).trans ?_
  refine (run_eql_struct w t xs.toArray ys.toArray).trans ?_
  rw[q1]; rfl
 ·refine (zcC (run_eqGuard_agg w .neq t ox oy xs.toArray ys.toArray hg)).trans ?_
  refine (run_neq_struct w t xs.toArray ys.toArray).trans ?_
  rw[q1]; rfl
theorem zBD {op:BinOp} {t:TypeId} {x y r:A} (hr:zEw P op t x y=some r) {va vb:Value} (hx:RepA β S w.heap L x va) (hy:RepA β S w.heap L y vb) (ox oy:Operand) :
  ∃ v,zsB P op t ox oy va vb w=.ok v w∧RepA β S w.heap L r v:=by
 have scal:∀ {k:EK} {u:k.T} {b r0:PV} {vb:Value},zuk op (.sc k u) b=some r0→RepA β S w.heap L (.pv b) vb→∃ v,zsB P op t ox oy (k.enc u) vb w=.ok v w∧RepA β S w.heap L (.pv r0) v:=by
  intro k u b r0 vb hr hb
  obtain ⟨v,h1,h2⟩:=zA2 (P:=P) (w:=w) hr (RepA.sc k u) hb t
  exact ⟨v,by rw[zcC (zcp (zit k u).1 (zit k u).2)]; exact h1,h2⟩
 unfold zEw at hr
 split at hr
 ·
  rename_i a b
  split at hr
  ·rename_i u v
   split at hr
   ·rename_i hb
    cases hr
    have e1:=hx.sc_inv
    have e2:=hy.sc_inv
    subst e1; subst e2
    exact ⟨_,by rw[zcC (zcp (zit .b u).1 (zit .b u).2)]; exact (zrO hb u v).1,RepA.sc .b _⟩
   ·cases hr
  ·rename_i k u b _
   simp only[Option.map_eq_some_iff]at hr
   obtain ⟨r0,hr,rfl⟩:=hr
   have e1:=hx.sc_inv
   subst e1
   exact scal hr hy
  ·split at hr
   ·rename_i hb
    cases hr
    obtain ⟨_,h1,rfl⟩:=hx.pv_inv
    obtain ⟨_,h2,rfl⟩:=hy.pv_inv
    cases h1; cases h2
    exact ⟨_,by rw[zcC (zcp (by simp[pack,PV.isAgg]) (by simp[pack,PV.isAgg]))]; exact (zfk hb none).1,RepA.sc .b true⟩
   ·cases hr
  ·split at hr
   ·rename_i hc
    simp only[Bool.and_eq_true,Bool.not_eq_true']at hc
    simp only[Option.map_eq_some_iff]at hr
    obtain ⟨r0,hr,rfl⟩:=hr
    obtain ⟨_,h1,rfl⟩:=hx.pv_inv
    obtain ⟨_,h2,rfl⟩:=hy.pv_inv
    exact ⟨_,(zu8 hc.1.1 hc.1.2 hc.2 hr h1 h2 ox oy).1,RepA.sc .b r0⟩
   ·cases hr
 ·
  rename_i a b
  split at hr
  ·rename_i u v
   split at hr
   ·rename_i hb
    cases hr
    have e1:=hx.sc_inv
    have e2:=hy.sc_inv
    subst e1; subst e2
    exact ⟨_,by rw[zcC (zcp (zit .b u).1 (zit .b u).2)]; exact (zrO hb u v).2,RepA.sc .b _⟩
   ·cases hr
  ·rename_i k u b _
   simp only[Option.map_eq_some_iff]at hr
   obtain ⟨r0,hr,rfl⟩:=hr
   have e1:=hx.sc_inv
   subst e1
   exact scal hr hy
  ·split at hr
   ·rename_i hb
    cases hr
    obtain ⟨_,h1,rfl⟩:=hx.pv_inv
    obtain ⟨_,h2,rfl⟩:=hy.pv_inv
    cases h1; cases h2
    exact ⟨_,by rw[zcC (zcp (by simp[pack,PV.isAgg]) (by simp[pack,PV.isAgg]))]; exact (zfk hb none).2,RepA.sc .b false⟩
   ·cases hr
  ·split at hr
   ·rename_i hc
    simp only[Bool.and_eq_true,Bool.not_eq_true']at hc
    simp only[Option.map_eq_some_iff]at hr
    obtain ⟨r0,hr,rfl⟩:=hr
    obtain ⟨_,h1,rfl⟩:=hx.pv_inv
    obtain ⟨_,h2,rfl⟩:=hy.pv_inv
    exact ⟨_,(zu8 hc.1.1 hc.1.2 hc.2 hr h1 h2 ox oy).2,RepA.sc .b (!r0)⟩
   ·cases hr
 ·
  rename_i a b h1 h2
  simp only[Option.map_eq_some_iff]at hr
  obtain ⟨r0,hr,rfl⟩:=hr
  obtain ⟨v,g1,g2⟩:=zA2 (P:=P) (w:=w) hr hx hy t
  exact ⟨v,by rw[zcC (zGJ (fun e=>h1 e) (fun e=>h2 e))]; exact g1,g2⟩
 ·split at hr
  ·rename_i hb
   cases hr
   obtain ⟨vs,h1,rfl⟩:=hx
   obtain ⟨_,h2,rfl⟩:=hy.pv_inv
   cases h2
   cases h1
   exact ⟨_,by rw[zcC (zcp (by simp[pack,A.isAgg]) (by simp[pack,A.isAgg]))]; exact (zfk hb _).1,RepA.sc .b false⟩
  ·cases hr
 ·split at hr
  ·rename_i hb
   cases hr
   obtain ⟨vs,h1,rfl⟩:=hx
   obtain ⟨_,h2,rfl⟩:=hy.pv_inv
   cases h2
   cases h1
   exact ⟨_,by rw[zcC (zcp (by simp[pack,A.isAgg]) (by simp[pack,A.isAgg]))]; exact (zfk hb _).2,RepA.sc .b true⟩
  ·cases hr
 ·split at hr
  ·rename_i hb
   cases hr
   obtain ⟨vs,h1,rfl⟩:=hx
   obtain ⟨_,h2,rfl⟩:=hy.pv_inv
   cases h2
   cases h1
   exact ⟨_,by rw[zcC (zcp (by simp[pack,A.isAgg]) (by simp[pack,A.isAgg]))]; exact (zfk hb _).1,RepA.sc .b false⟩
  ·cases hr
 ·split at hr
  ·rename_i hb
   cases hr
   obtain ⟨vs,h1,rfl⟩:=hx
   obtain ⟨_,h2,rfl⟩:=hy.pv_inv
   cases h2
   cases h1
   exact ⟨_,by rw[zcC (zcp (by simp[pack,A.isAgg]) (by simp[pack,A.isAgg]))]; exact (zfk hb _).2,RepA.sc .b true⟩
  ·cases hr
 ·cases hr
end
end Go.Proofs.YtnolgfdjcipmmaaDoor.M
namespace Go.Proofs.YtnolgfdjcipmmaaDoor.M
open Go
section
variable {P:Program} {k:Wk} {β:Nat→Value} {S:Nat→Prop} {E:List (Nat × A)} {L:Nat→Option Blk} {a:Act} {w:World}
theorem RepRC.toSl {rc:RC} {vs:List Value} {h:Array Obj} {ad:Option Addr} {cap:Nat} (r:RepRC S h rc vs) (hle:rc.len≤cap) (hc:rc.len=0∨∃ b off,ad=some ⟨b,off,none⟩∧S b∧CellsAt h b off vs) :
  RepPV S h rc.sl [.slice ad rc.len cap]:=by
 cases r with
 | s k xs =>
  refine .sl hle ?_
  rcases hc with h0 | hc
  ·exact .inl (List.length_eq_zero_iff.1 h0)
  ·exact .inr hc
 | p e r =>
  refine .sp hle e r ?_
  rcases hc with h0 | hc
  ·exact .inl (List.length_eq_zero_iff.1 h0)
  ·exact .inr hc
theorem RC.sl_isAgg (rc:RC):rc.sl.isAgg=false:=by cases rc<;>rfl
theorem zEN {n:Nat} {v:Bool} {m:Nat} {π:List PE} (h:zar [(n,none)] v m π=true):m≠n:=by
 intro e
 subst e
 simp[zar]at h
theorem Rl.freeze (R:Rl k β S E L a w) {n:Nat} {rc:RC} {ex:Bool} (hL:L n=some (.row rc ex)) {w':World} (hsz:w'.heap.size=w.heap.size)
  (same:∀ b,¬ fp (β n) b→w'.heap[b]?=w.heap[b]?) (cells:∀ b c T fz,fp (β n) b→w.heap[b]?=some (.cells c T fz)→∃ fz',w'.heap[b]?=some (.cells c T fz'))
  (hall:∀ m b,m≠n→L m=some b→b.all (zar [(n,none)])=true) (hos:w'.os=w.os) (ht:w'.tape=w.tape) (ho:w'.output=w.output) :
  ∃ S',Rl k β S' (E.filter fun p=>p.2.all (zar [(n,none)])) (({ val:=.und,cut:=[(n,none)] }:Out).mem L) a w'∧RepPV S' w'.heap rc.sl [β n]:=by
 let S':Nat→Prop:=fun b=>S b∨fp (β n) b
 have hmem:∀ m,({ val:=.und,cut:=[(n,none)] }:Out).mem L m=if m=n then none else L m:=by
  intro m
  by_cases e:m=n
  ·subst e; simp[Out.mem,za5]
  ·have:Nat.beq m n=false:=by
    cases hq:Nat.beq m n with
    | false=>rfl
    | true=>exact absurd (nbeq.1 hq) e
   simp[Out.mem,za5,this,lk,e]
 have hin:∀ m b,({ val:=.und,cut:=[(n,none)] }:Out).mem L m=some b→m≠n∧L m=some b:=by
  intro m b h
  rw[hmem]at h
  by_cases e:m=n
  ·rw[if_pos e]at h; cases h
  ·rw[if_neg e]at h; exact ⟨e,h⟩
 have sep:∀ m b,m≠n→L m=some b→∀ q,fp (β m) q→¬ fp (β n) q:=fun m b e h q hq=>R.mem.sep m n e (by rw[h]; rfl) (by rw[hL]; rfl) q hq
 have K:Keeps β β S S' w.heap w'.heap L (({ val:=.und,cut:=[(n,none)] }:Out).mem L) (zar [(n,none)]):=by
  refine ⟨fun b h=>.inl h,fun b hb=>same b (fun hf=>(R.mem.own n _ hL b hf).1 hb),fun v m π hm blk hb=>⟨rfl,blk,?_,SameAt.refl _ _ _⟩⟩
  rw[hmem,if_neg (zEN hm)]; exact hb
 have M:MS β S' w'.heap k.w0.heap.size k.F (({ val:=.und,cut:=[(n,none)] }:Out).mem L):=by
  refine R.mem.step K (fun _=>False) (Nat.le_of_eq hsz.symm) ?_ (fun _ _ _ h=>h.elim) ?_
  ·intro m b hb _
   obtain ⟨e,hb⟩:=hin m b hb
   exact ⟨hb,rfl,hall m b e hb,fun q hq=>same q (sep m b e hb q hq)⟩
  ·intro q hq
   rcases hq with hq | hq
   ·exact ⟨hsz ▸ R.mem.bound q hq,fun m b hb hf=>(R.mem.own m b (hin m b hb).2 q hf).1 hq⟩
   ·exact ⟨hsz ▸ (R.mem.own n _ hL q hq).2.1,fun m b hb hf=>sep m b (hin m b hb).1 (hin m b hb).2 q hf hq⟩
 refine ⟨S',R.world K M (Nat.le_of_eq hsz.symm) ?_ ?_ hos ht ho,?_⟩
 ·intro b hb hF
  refine same b fun hf=>?_
  rcases (R.mem.own n _ hL b hf).2.2 with h | h
  ·omega
  ·exact hF h
 ·intro b hb
  rcases hb with hb | hb
  ·exact .inl hb
  ·exact .inr (R.mem.own n _ hL b hb).2.2
 ·obtain ⟨ad,cap,h1,h2,h3,h4⟩:=R.mem.blk n _ hL
  have empty:cap=0→RepPV S' w'.heap rc.sl [β n]:=by
   intro h0
   rw[h1]
   cases rc with
   | s q xs =>
    simp only[RC.len]at h2
    have:xs=[]:=List.length_eq_zero_iff.1 (by omega)
    subst this
    exact .sl (by simp) (.inl rfl)
   | p q xs =>
    simp only[RC.len]at h2
    have:xs=[]:=List.length_eq_zero_iff.1 (by omega)
    subst this
    exact .sp (by simp) (fun x hx=>by cases hx) .nil (.inl rfl)
  rcases h4 with h4 | ⟨b,o,cs,T,rfl,q2,q3,X,vs,Y,q4,q5,q6⟩
  ·exact empty h4
  ·by_cases h0:cap=0
   ·exact empty h0
   ·have hf:fp (β n) b:=by rw[h1]; exact ⟨h0,rfl⟩
    obtain ⟨fz,hc⟩:=cells b cs T _ hf q2
    rw[h1]
    refine RepRC.toSl (q6.mono (fun b h=>.inl h) (fun c hc=>same c fun hf=>(R.mem.own n _ hL c hf).1 hc)) h2 (.inr ⟨b,o,rfl,.inr hf,cs,T,fz,hc,?_⟩)
    intro i v hv
    have hlt:i < vs.length:=(List.getElem?_eq_some_iff.1 hv).1
    rw[←Array.getElem?_toList,q4,List.append_assoc,List.getElem?_append_right (by omega)]
    rw[show o+i - X.length=i by omega,List.getElem?_append_left hlt]
    exact hv
theorem zzu (w:World) (b n:Nat):∃ w',w.freeze ⟨b,n,none⟩ 1=w'∧w'.heap.size=w.heap.size∧(∀ c,c≠b→w'.heap[c]?=w.heap[c]?) ∧
  (∀ c T fz,w.heap[b]?=some (.cells c T fz)→∃ fz',w'.heap[b]?=some (.cells c T fz'))∧w'.os=w.os∧w'.tape=w.tape∧w'.output=w.output:=by
 refine ⟨_,rfl,?_⟩
 unfold World.freeze
 rw[if_neg (by decide)]
 refine ⟨by simp,fun c hc=>?_,fun c T fz h=>?_,rfl,rfl,rfl⟩
 ·simp only[Array.getElem?_modify]
  rw[if_neg (fun e=>hc e.symm)]
 ·simp only[Array.getElem?_modify,if_true,h,Option.map_some]
  exact ⟨_,rfl⟩
def ziI (P:Program) (L:Nat→Option Blk) (s t:TypeId) (x:A):Option Out :=
 match x with
 | .o n=>(L n).bind fun b=>match b,P.underlying s with
  | .row rc _,some (.slice e)=>match P.underlying e with
   | some (.int .u8)=>if Nat.beq s t && Nat.blt 0 rc.len then some { val:=.pv rc.sl,cut:=[(n,none)] } else none
   | _=>none
  | _,_=>none
 | _=>none
theorem zyC (R:Rl k β S E L a w) {s t:TypeId} {x:A} {v:Value} {o:Out} (ho:ziI P L s t x=some o) (hx:RepA β S w.heap L x v)
  (hall:∀ m b',o.mem L m=some b'→b'.all (zar o.cut)=true) :
  ∃ v' β' S' w',(convert s t v).run P w=.ok v' w'∧Rl k β' S' (E.filter fun p=>p.2.all (zar o.cut)) (o.mem L) a w'∧RepA β' S' w'.heap (o.mem L) o.val v':=by
 unfold ziI at ho
 split at ho
 ·rename_i n
  obtain ⟨b,hb,ho⟩:=Option.bind_eq_some_iff.1 ho
  split at ho
  ·rename_i rc ex e hs
   split at ho
   ·rename_i he
    split at ho
    ·rename_i hc
     cases ho
     simp only[Bool.and_eq_true]at hc
     have hst:s=t:=nbeq.1 hc.1
     subst hst
     have hpos:0 < rc.len:=Nat.le_of_ble_eq_true hc.2
     obtain ⟨ad,cap,h1,h2,h3,h4⟩:=R.mem.blk n _ hb
     have hv:v=.slice ad rc.len cap:=by
      obtain ⟨vs,r,ev⟩:=hx
      cases r with
      | o e1 e2=>rw[ev,h1]; rfl
     rcases h4 with h4 | ⟨c,of,cs,T,rfl,q2,q3,X,vs,Y,q4,q5,q6⟩
     ·omega
     ·have hsh:w.shape? c=some (T,cs.size):=by
       unfold World.shape?; rw[q2]
      obtain ⟨w',e1,e2,e3,e4,e5,e6,e7⟩:=zzu w c cs.size
      have hf:∀ q,fp (β n) q→q=c:=by
       intro q hq
       rw[h1]at hq
       exact hq.2.symm
      obtain ⟨S',r1,r2⟩:=R.freeze hb (w':=w') e2 (fun q hq=>e3 q (fun e=>hq (by subst e; rw[h1]; exact ⟨by omega,rfl⟩)))
       (fun q c' T' fz hq hc'=>by have:=hf q hq; subst this; exact e4 c' T' fz hc')
       (fun m b' hm hb'=>hall m b' (by
        have:Nat.beq m n=false:=by
         cases hq:Nat.beq m n with
         | false=>rfl
         | true=>exact absurd (nbeq.1 hq) hm
        simp[Out.mem,za5,this,lk]; exact hb')) e5 e6 e7
      refine ⟨v,β,S',w',?_,r1,?_⟩
      ·subst hv
       simp[convert,run_underlying hs,run_underlying he,markStringish,hsh]
       exact e1
      ·subst hv
       rw[←h1]
       exact RepA.pv1 r2 (RC.sl_isAgg rc)
    ·cases ho
   ·cases ho
  ·cases ho
 ·cases ho
end
end Go.Proofs.YtnolgfdjcipmmaaDoor.M
namespace Go.Proofs.YtnolgfdjcipmmaaDoor.M
open Go Go.RowKit
def zdO {α:Type} (off m:Nat) (xs ys:List α):List α:=xs.take off++ys.take m++xs.drop (off+m)
def RC.over (off m:Nat):RC→RC→Option RC
 | .s .u8 xs,.s .u8 ys=>some (.s .u8 (zdO off m xs ys)) | .s .u16 xs,.s .u16 ys=>some (.s .u16 (zdO off m xs ys)) | .s .u32 xs,.s .u32 ys=>some (.s .u32 (zdO off m xs ys))
 | .s .u64 xs,.s .u64 ys=>some (.s .u64 (zdO off m xs ys)) | .s .i xs,.s .i ys=>some (.s .i (zdO off m xs ys)) | .s .b xs,.s .b ys=>some (.s .b (zdO off m xs ys))
 | _,_=>none
theorem RC.over_eq {off m:Nat} {r r' q:RC} (h:r.over off m r'=some q):∃ k xs ys,r=.s k xs∧r'=.s k ys∧q=.s k (zdO off m xs ys):=by
 unfold RC.over at h
 split at h<;>first | (cases h; done) | (cases h; exact ⟨_,_,_,rfl,rfl,rfl⟩)
theorem zzo {α:Type} {off m:Nat} {xs ys:List α} (h1:off+m≤xs.length) (h2:m≤ys.length):(zdO off m xs ys).length=xs.length:=by
 simp only[zdO,List.length_append,List.length_take,List.length_drop]
 omega
section
variable {P:Program} {k:Wk} {β:Nat→Value} {S:Nat→Prop} {E:List (Nat × A)} {L:Nat→Option Blk} {a:Act} {w:World}
def zJA:Blk→Blk→Prop
 | .box _,.box _=>True
 | .row rc ex,.row rc' ex'=>rc'.len=rc.len∧rc'.sz=rc.sz∧ex'=ex
 | _,_=>False
theorem Rl.cells (R:Rl k β S E L a w) {n:Nat} {blk blk':Blk} (hL:L n=some blk) {π0:List PE} {b o:Nat} {cs:Array Value} {T:TypeId} (hb:zbT (β n)=some ⟨b,o,none⟩) (q0:fp (β n) b)
  (q1:w.heap[b]?=some (.cells cs T (0,0))) {cs':Array Value} (hlen:cs'.size=cs.size) (hc:zF1 β S w.heap L o blk' cs'.toList) (hk:∀ π v,zaO π0 v π=false→SameAt blk blk' v π) (hlike:zJA blk blk')
  (hall:∀ m b,(upd L n (some blk')) m=some b→b.all (zar [(n,some π0)])=true) :
  Rl k β S (E.filter fun p=>p.2.all (zar [(n,some π0)])) (upd L n (some blk')) a (w.setRow b cs'):=by
 have hbo:=R.mem.own n blk hL b q0
 have hheap:=zm2 (w:=w) (cs':=cs') q1
 have keepS:∀ q,S q→(w.setRow b cs').heap[q]?=w.heap[q]?:=fun q hq=>by
  rw[hheap,if_neg]; intro e; subst e; exact hbo.1 hq
 have K:Keeps β β S S w.heap (w.setRow b cs').heap L (upd L n (some blk')) (zar [(n,some π0)]):=by
  refine ⟨fun _ h=>h,keepS,fun v m π' hm blk0 hb0=>⟨rfl,?_⟩⟩
  by_cases e:m=n
  ·subst e
   rw[hL]at hb0; cases hb0
   refine ⟨blk',zay _ _ _,hk π' v ?_⟩
   have:(Nat.beq m m && zaO π0 v π')=false:=by simpa [zar] using hm
   rwa [nbeq.2 rfl,Bool.true_and]at this
  ·exact ⟨blk0,by rw[zbh _ _ e]; exact hb0,SameAt.refl _ _ _⟩
 have hsep:∀ m b',L m=some b'→m≠n→∀ q,fp (β m) q→(w.setRow b cs').heap[q]?=w.heap[q]?:=by
  intro m b' hm hne q hq
  rw[hheap,if_neg]
  intro e; subst e
  exact R.mem.sep m n hne (by rw[hm]; rfl) (by rw[hL]; rfl) _ hq q0
 have hblk':blk'.all (zar [(n,some π0)])=true:=hall n blk' (zay _ _ _)
 have M':MS β S (w.setRow b cs').heap k.w0.heap.size k.F (upd L n (some blk')):=by
  refine R.mem.step K (fun m=>m=n) (by simp[World.setRow]) ?_ ?_ ?_
  ·intro m b' hm hne
   have hm':=hm
   rw[zbh _ _ hne]at hm'
   exact ⟨hm',rfl,hall m b' hm,hsep m b' hm' hne⟩
  ·rintro m b' hm rfl
   rw[zay]at hm
   cases hm
   refine ⟨?_,fun q hq=>⟨by simpa [World.setRow] using (R.mem.own m blk hL q hq).2.1,(R.mem.own m blk hL q hq).2.2,fun m' b' hm' hne hq'=>?_⟩⟩
   ·have hok:=R.mem.blk m blk hL
    cases blk with
    | box c =>
     cases blk' with
     | row _ _=>exact hlike.elim
     | map _=>exact hlike.elim
     | box c' =>
      obtain ⟨b2,cs2,T2,g1,g2,g3⟩:=hok
      rw[g1]at q0
      have:b2=b:=q0
      subst this
      refine ⟨b2,cs',T,g1,by rw[hheap,if_pos rfl],?_⟩
      exact RepC.mono K hc hblk'
    | row rc ex =>
     cases blk' with
     | box _=>exact hlike.elim
     | map _=>exact hlike.elim
     | row rc' ex' =>
      obtain ⟨r1,r2,rfl⟩:=hlike
      obtain ⟨a2,cap,g1,g2,g3,g4⟩:=hok
      refine ⟨a2,cap,by rw[g1,r1],by omega,fun h=>by rw[r1]; exact g3 h,?_⟩
      rcases g4 with g4 | ⟨b2,o2,cs2,T2,k1,k2,k3,X0,vs0,Y0,k4,k5,k6⟩
      ·exact .inl g4
      ·rw[g1,k1]at q0 hb
       have hb2:b2=b:=q0.2
       simp only[zbT,Option.some.injEq,Addr.mk.injEq]at hb
       obtain ⟨_,ho,_⟩:=hb
       subst hb2 ho
       obtain ⟨X1,vs1,Y1,j1,j2,j3⟩:=hc
       rw[q1]at k2
       cases k2
       refine .inr ⟨b2,o2,cs',T,k1,by rw[hheap,if_pos rfl],?_,X1,vs1,Y1,j1,j2,j3.mono K.s K.h⟩
       rw[hlen,r2]; exact k3
    | map kv=>cases blk'<;>exact hlike.elim
   ·rw[zbh _ _ hne]at hm'
    exact R.mem.sep m m' (Ne.symm hne) (by rw[hL]; rfl) (by rw[hm']; rfl) q hq hq'
  ·intro q hq
   refine ⟨by simpa [World.setRow] using R.mem.bound q hq,fun m b' hm hf=>?_⟩
   by_cases e:m=n
   ·subst e; exact (R.mem.own m blk hL q hf).1 hq
   ·rw[zbh _ _ e]at hm
    exact (R.mem.own m b' hm q hf).1 hq
 refine R.world K M' (by simp[World.setRow]) (fun q hq hnf=>?_) (fun q hq=>.inl hq) rfl rfl rfl
 rw[hheap,if_neg]
 intro e; subst e
 rcases hbo.2.2 with h | h
 ·omega
 ·exact hnf h
def zl2 (P:Program) (L:Nat→Option Blk) (t:TypeId) (x y:A):Option Out :=
 match P.underlying t with
 | some (.slice e)=>if szT P e == some 1 then(ze0 L y).bind fun ry =>
  match x with
  | .o n=>(L n).bind fun b=>match b with
   | .row rc ex=>(rc.over 0 (min ry.len rc.len) ry).map fun r=>{ val:=intA (min ry.len rc.len),upd:=[(n,.row r ex)],cut:=[(n,some [.i 0])] }
   | _=>none
  | .vw n [] off len _=>(L n).bind fun b=>match b with
   | .row rc ex=>(rc.over off (min ry.len len) ry).map fun r=>{ val:=intA (min ry.len len),upd:=[(n,.row r ex)],cut:=[(n,some [.i 0])] }
   | .box c=>(c.elems).bind fun rx=>(rx.over off (min ry.len len) ry).bind fun r=>(M.arrLen c).bind fun q=>((Blk.box c).set [] (.pv (r.arr 0 q.1))).map fun b'=>{ val:=intA (min ry.len len),upd:=[(n,b')],cut:=[(n,some [])] }
   | .map _=>none
  | .vw n (q :: π) off len _=>(L n).bind fun b=>(b.elems (q :: π)).bind fun rx=>(rx.over off (min ry.len len) ry).bind fun r =>
    (b.arrLen (q :: π)).bind fun N=>(b.set (q :: π) (.pv (r.arr 0 N.1))).map fun b'=>{ val:=intA (min ry.len len),upd:=[(n,b')],cut:=[(n,some (q :: π))] }
  | _=>none
  else none
 | _=>none
theorem zu7 {α:Type} (off:Nat) (xs ys:List α):zdO off 0 xs ys=xs:=by simp[zdO]
theorem zAE {α β:Type} (f:α→β) (off m:Nat) (xs ys:List α):(zdO off m xs ys).map f=zdO off m (xs.map f) (ys.map f):=by simp[zdO,List.map_take,List.map_drop]
theorem zDy {α:Type} {o off m:Nat} {cs X us Y zs:List α} (e:cs=X++us++Y) (hX:X.length=o) (hm:off+m≤us.length) (hz:m≤zs.length) :
  cs.take (o+off)++zs.take m++cs.drop (o+off+m)=X++zdO off m us zs++Y:=by
 subst e hX
 unfold zdO
 rw[List.append_assoc X us Y,List.take_append,List.take_of_length_le (by omega),show X.length+off - X.length=off by omega,List.take_append,show off - us.length=0 by omega,List.take_zero,List.append_nil]
 rw[List.drop_append,List.drop_eq_nil_of_le (by omega),List.nil_append,show X.length+off+m - X.length=off+m by omega,List.drop_append,show off+m - us.length=0 by omega,List.drop_zero]
 simp[List.append_assoc]
theorem zHr {b' off':Nat} {k:EK} {ys:List k.T} (h:CellsAt w.heap b' off' (ys.map k.enc)) (m:Nat):∀ j v,((ys.take m).map k.enc)[j]?=some v→w.cell? ((⟨b',off',none⟩:Addr).add j)=some v:=by
 intro j v hv
 obtain ⟨c,T,fz,h1,h2⟩:=h
 have:(ys.map k.enc)[j]?=some v:=by
  rw[List.map_take,List.getElem?_take]at hv
  split at hv
  ·exact hv
  ·cases hv
 have hj:=h2 j v this
 have hadd:(⟨b',off',none⟩:Addr).add j=⟨b',off' + j,none⟩:=by unfold Addr.add; split<;>simp_all
 rw[hadd]
 simp only[World.cell?,h1]
 exact hj
theorem zDH {t t2 ty e:TypeId} {k:EK} {b o len dCap:Nat} {ad:Option Addr} {ys:List k.T} {scap:Nat} {cs:Array Value} {T:TypeId} (hu:P.underlying t=some (.slice e)) (hs:szT P e=some 1)
  (hg:w.heap[b]?=some (.cells cs T (0,0))) (hfit:o+min ys.length len≤cs.size) (hsrc:ys.length=0∨∃ b off,ad=some ⟨b,off,none⟩∧CellsAt w.heap b off (ys.map k.enc)) :
  (Builtin.copy_ #[t,t2] ty #[.slice (some ⟨b,o,none⟩) len dCap,.slice ad ys.length scap]).run P w =
   .ok (goInt (min ys.length len:Nat)) (w.setRow b (cs.toList.take o++(ys.map k.enc).take (min ys.length len)++cs.toList.drop (o+min ys.length len)).toArray):=by
 rcases hsrc with h0 | ⟨b',off',rfl,hc⟩
 ·have hm:min ys.length len=0:=by omega
  rw[hm,run_copy_none w t t2 ty e _ _ _ _ _ _ hu hs hm]
  simp only[List.take_zero,List.append_nil,Nat.add_zero,List.take_append_drop,Array.toArray_toList]
  rw[setRow_self w b cs T (0,0) hg]
  rfl
 ·have hl:((ys.take (min ys.length len)).map k.enc).length=Nat.min ys.length len:=by
   simp only[List.length_map,List.length_take]
   show min (min ys.length len) ys.length=min ys.length len
   omega
  have:=run_copy_row (P:=P) w t t2 ty e b o len dCap ⟨b',off',none⟩ ys.length scap cs T ((ys.take (min ys.length len)).map k.enc) hu hs hg hl (zHr hc _) (by rw[hl]; exact hfit) (fun v hv=>by
   obtain ⟨x,_,rfl⟩:=List.mem_map.1 hv
   exact zxX k x)
  rw[this,hl,List.map_take]
theorem cells_of_row {k':Wk} {n:Nat} {k:EK} {xs:List k.T} {ex:Bool} (R:Rl k' β S E L a w) (hL:L n=some (.row (.s k xs) ex)) {b o:Nat} (hb:zbT (β n)=some ⟨b,o,none⟩) (hpos:0 < xs.length) :
  ∃ cs T X Y,w.heap[b]?=some (.cells cs T (0,0))∧fp (β n) b∧cs.toList=X++xs.map k.enc++Y∧X.length=o:=by
 obtain ⟨a2,cap,g1,g2,g3,g4⟩:=R.mem.blk n _ hL
 simp only[RC.len]at g1 g2
 rcases g4 with g4 | ⟨b2,o2,cs,T,k1,k2,k3,X,vs,Y,k4,k5,k6⟩
 ·omega
 ·subst k1
  rw[g1]at hb
  simp only[zbT,Option.some.injEq,Addr.mk.injEq]at hb
  obtain ⟨rfl,rfl,_⟩:=hb
  cases k6
  exact ⟨cs,T,X,Y,k2,by rw[g1]; exact ⟨by omega,rfl⟩,k4,k5⟩
theorem zxP {n:Nat} {x:A} {b:Blk} {π:List PE}:({ val:=x,upd:=[(n,b)],cut:=[(n,some π)] }:Out).mem L=upd L n (some b):=by
 funext m
 simp only[Out.mem,za5,List.any_cons,List.any_nil,Bool.or_false,Bool.false_eq_true,if_false,lk,upd]
 by_cases e:n=m
 ·subst e; simp
 ·have:Nat.beq n m=false:=by
   cases hq:Nat.beq n m with
   | false=>rfl
   | true=>exact absurd (nbeq.1 hq) e
  rw[this,if_neg (fun q=>e q.symm)]
  rfl
theorem zHU {k:EK} {xs ys:List k.T} {ex:Bool} (hl:ys.length=xs.length) {π:List PE} {v:Bool} (hs:zaO [.i 0] v π=false):SameAt (.row (.s k xs) ex) (.row (.s k ys) ex) v π:=by
 refine ⟨rfl,fun ho=>?_,fun ho hv=>?_⟩
 ·cases π with
  | nil=>simp[Blk.ok,RC.ok]at ho
  | cons q π =>
   cases q with
   | f j=>simp[Blk.ok,RC.ok]at ho
   | i j =>
    cases π with
    | nil =>
     simp only[Blk.ok,RC.ok]at ho ⊢
     exact ⟨by omega,rfl⟩
    | cons _ _=>simp[Blk.ok,RC.ok]at ho
 ·cases π with
  | nil=>exact ⟨trivial,rfl,by simp[Blk.arrLen,RC.len,RC.sz,hl]⟩
  | cons q π =>
   subst hv
   cases q with
   | f j=>simp[Blk.okv,Blk.ok,RC.ok]at ho
   | i j=>simp[zaO,zgd]at hs; exact absurd hs (by cases π.length<;>simp[Nat.ble])
theorem copy_row {t t2 ty e:TypeId} {ek:EK} {xs ys:List ek.T} {ex:Bool} {n off len cp:Nat} {base ad:Option Addr} {scap:Nat} (R:Rl k β S E L a w) (hu:P.underlying t=some (.slice e)) (hs:szT P e=some 1)
  (hL:L n=some (.row (.s ek xs) ex)) (hl:off+len≤xs.length) (hc:len≤cp) (hb:cp=0∨∃ b o,zbT (β n)=some ⟨b,o,none⟩∧base=some ⟨b,o+off,none⟩)
  (hsrc:ys.length=0∨∃ b off,ad=some ⟨b,off,none⟩∧CellsAt w.heap b off (ys.map ek.enc))
  (hall:∀ m b,(upd L n (some (.row (.s ek (zdO off (min ys.length len) xs ys)) ex))) m=some b→b.all (zar [(n,some [.i 0])])=true) :
  ∃ w',(Builtin.copy_ #[t,t2] ty #[.slice base len cp,.slice ad ys.length scap]).run P w=.ok (goInt (min ys.length len:Nat)) w' ∧
   Rl k β S (E.filter fun p=>p.2.all (zar [(n,some [.i 0])])) (upd L n (some (.row (.s ek (zdO off (min ys.length len) xs ys)) ex))) a w':=by
 by_cases hm:min ys.length len=0
 ·rw[hm,zu7]
  have e:upd L n (some (.row (.s ek xs) ex))=L:=by
   funext m
   by_cases e:m=n
   ·subst e; rw[zay,hL]
   ·rw[zbh _ _ e]
  refine ⟨w,run_copy_none w t t2 ty _ _ _ _ _ _ _ hu hs hm,?_⟩
  rw[e]
  exact R.sub fun p hp=>(List.mem_filter.1 hp).1
 ·rcases hb with hb | ⟨b,o,hb,rfl⟩
  ·omega
  ·obtain ⟨cs,T,X,Y,q1,q0,q2,q3⟩:=cells_of_row R hL hb (by omega)
   have hsz:cs.size=X.length+xs.length+Y.length:=by
    have:=congrArg List.length q2
    simpa [Nat.add_assoc] using this
   have hrun:=zDH (P:=P) (t2:=t2) (ty:=ty) (len:=len) (dCap:=cp) (scap:=scap) hu hs q1 (o:=o+off) (by omega) hsrc
   refine ⟨_,hrun,?_⟩
   have hseg:=zDy (off:=off) (m:=min ys.length len) (zs:=ys.map ek.enc) q2 q3 (by simp; omega) (by simp; omega)
   have hseg:cs.toList.take (o+off)++(ys.map ek.enc).take (min ys.length len)++cs.toList.drop (o+off+min ys.length len)=X++(zdO off (min ys.length len) xs ys).map ek.enc++Y:=by
    rw[zAE]; exact hseg
   have hol:=zzo (xs:=xs) (ys:=ys) (off:=off) (m:=min ys.length len) (by omega) (by omega)
   refine Rl.cells R hL hb q0 q1 (π0:=[.i 0]) ?_ ?_ (fun π v h=>zHU hol h) ⟨hol,rfl,rfl⟩ hall
   ·have:=congrArg List.length hseg
    simp only[List.length_append,List.length_map,hol]at this
    simp only[List.size_toArray,List.length_append]
    omega
   ·exact ⟨X,_,Y,by rw[List.toList_toArray]; exact hseg,q3,.s ek _⟩
theorem zH1 {t t2 ty e:TypeId} {ek:EK} {xs ys:List ek.T} {n off len cp:Nat} {π:List PE} {blk blk':Blk} {base ad:Option Addr} {scap N:Nat} {v:Vector ek.T N} (R:Rl k β S E L a w) (hu:P.underlying t=some (.slice e)) (hs:szT P e=some 1)
  (hL:L n=some blk) (hok:blk.ok π) (hget:blk.get π=.pv (.arr ek N v)) (hxs:xs=v.toList) (hl:off+len≤N) (hc:len≤cp) (hb:cp=0∨∃ b o,zbT (β n)=some ⟨b,o,none⟩∧base=some ⟨b,o+blk.off π+off,none⟩)
  (hbase:∃ b o,zbT (β n)=some ⟨b,o,none⟩)
  (hsrc:ys.length=0∨∃ b off,ad=some ⟨b,off,none⟩∧CellsAt w.heap b off (ys.map ek.enc))
  (hset:blk.set π (.pv ((RC.s ek (zdO off (min ys.length len) xs ys)).arr 0 N))=some blk')
  (hall:∀ m b,(upd L n (some blk')) m=some b→b.all (zar [(n,some π)])=true) :
  ∃ w',(Builtin.copy_ #[t,t2] ty #[.slice base len cp,.slice ad ys.length scap]).run P w=.ok (goInt (min ys.length len:Nat)) w' ∧
   Rl k β S (E.filter fun p=>p.2.all (zar [(n,some π)])) (upd L n (some blk')) a w':=by
 obtain ⟨b,o,hbb⟩:=hbase
 obtain ⟨cs,T,X,us,Y,q1,q0,q2,q3,q4,q5⟩:=place R.mem hL hok hbb
 have hxl:xs.length=N:=by rw[hxs]; simp
 have hol:=zzo (xs:=xs) (ys:=ys) (off:=off) (m:=min ys.length len) (by omega) (by omega)
 have hus:us=xs.map ek.enc:=by
  rw[hget]at q4
  cases q4 with
  | pv r=>cases r; rw[hxs]
 subst hus
 have harr:(RC.s ek (zdO off (min ys.length len) xs ys)).arr 0 N=.arr ek N (Vector.ofFn fun i=>(zdO off (min ys.length len) xs ys).getD (0+i) ek.zero):=rfl
 have hvl:(Vector.ofFn (n:=N) fun i=>(zdO off (min ys.length len) xs ys).getD (0+i) ek.zero).toList=zdO off (min ys.length len) xs ys:=by
  apply List.ext_getElem
  ·simp[hol,hxl]
  ·intro i h1 h2
   simp[List.getD,h2]
 have hrep:RepC β S w.heap L (.pv ((RC.s ek (zdO off (min ys.length len) xs ys)).arr 0 N)) ((zdO off (min ys.length len) xs ys).map ek.enc):=by
  rw[harr]
  have:=RepPV.arr (S:=S) (h:=w.heap) ek N (Vector.ofFn (n:=N) fun i=>(zdO off (min ys.length len) xs ys).getD (0+i) ek.zero)
  rw[hvl]at this
  exact .pv this
 have hsize:(A.pv ((RC.s ek (zdO off (min ys.length len) xs ys)).arr 0 N)).size=(blk.get π).size:=by rw[harr,hget]; rfl
 have hcell:=q5 _ _ _ hrep hsize hset
 have hsz:cs.size=X.length+xs.length+Y.length:=by
  have:=congrArg List.length q2
  simpa [Nat.add_assoc] using this
 have hlike:zJA blk blk':=by
  cases blk with
  | box c =>
   simp only[Blk.set,Option.map_eq_some_iff]at hset
   obtain ⟨c',_,rfl⟩:=hset
   trivial
  | row rc ex =>
   simp only[Blk.set,Option.map_eq_some_iff]at hset
   obtain ⟨rc',hc',rfl⟩:=hset
   obtain ⟨r1,r2,_⟩:=RC.set_keeps hc' hok (by simpa [Blk.get,A.size] using hsize)
   exact ⟨r1,r2,rfl⟩
  | map kv=>simp[Blk.set]at hset
 have fin:∀ cs':Array Value,cs'.toList=X++(zdO off (min ys.length len) xs ys).map ek.enc++Y→Rl k β S (E.filter fun p=>p.2.all (zar [(n,some π)])) (upd L n (some blk')) a (w.setRow b cs'):=by
  intro cs' e
  refine Rl.cells R hL hbb q0 q1 (π0:=π) ?_ (by rw[e]; exact hcell) (fun π' v h=>Blk.set_keeps hset hok hsize π' v h) hlike hall
  have:=congrArg List.length e
  simp only[List.length_append,List.length_map,hol,Array.length_toList]at this
  omega
 by_cases hm:min ys.length len=0
 ·refine ⟨w,by rw[run_copy_none w t t2 ty _ _ _ _ _ _ _ hu hs hm,hm]; rfl,?_⟩
  have:=fin cs (by rw[hm,zu7]; exact q2)
  rwa [setRow_self w b cs T (0,0) q1]at this
 ·rcases hb with hb | ⟨b',o',hb,rfl⟩
  ·omega
  ·rw[hbb]at hb
   simp only[Option.some.injEq,Addr.mk.injEq]at hb
   obtain ⟨rfl,rfl,_⟩:=hb
   have hrun:=zDH (P:=P) (t2:=t2) (ty:=ty) (len:=len) (dCap:=cp) (scap:=scap) hu hs q1 (o:=o+blk.off π+off) (by omega) hsrc
   refine ⟨_,hrun,fin _ ?_⟩
   have hseg:=zDy (off:=off) (m:=min ys.length len) (zs:=ys.map ek.enc) q2 q3 (by simp; omega) (by simp; omega)
   rw[List.toList_toArray,zAE]
   exact hseg
theorem zzO (R:Rl k β S E L a w) {t t2 ty:TypeId} {x y:A} {v u:Value} {o:Out} (ho:zl2 P L t x y=some o) (hx:RepA β S w.heap L x v) (hy:RepA β S w.heap L y u)
  (hall:∀ m b',o.mem L m=some b'→b'.all (zar o.cut)=true):Does k β S E L a w ((Builtin.copy_ #[t,t2] ty #[v,u]).run P w) o:=by
 unfold zl2 at ho
 split at ho
 ·rename_i e hu
  split at ho
  ·rename_i hs
   have hs:=eq_of_beq hs
   obtain ⟨ry,hry,ho⟩:=Option.bind_eq_some_iff.1 ho
   obtain ⟨ad,scap,vs,rfl,s1,s2,s3⟩:=zky R.mem hry hy
   have src:∀ {ek:EK} {ys:List ek.T},ry=.s ek ys→ys.length=0∨∃ b off,ad=some ⟨b,off,none⟩∧CellsAt w.heap b off (ys.map ek.enc):=by
    intro ek ys e
    subst e
    cases s2
    exact s3
   have arr:∀ {n off len:Nat} {cp0:Option Nat} {π:List PE} {b b':Blk} {rx r:RC},x=.vw n π off len cp0→L n=some b→(∀ rc ex,b=.row rc ex→π≠[])→b.elems π=some rx→rx.over off (min ry.len len) ry=some r →
     b.set π (.pv (r.arr 0 rx.len))=some b'→o={ val:=intA (min ry.len len),upd:=[(n,b')],cut:=[(n,some π)] }→Does k β S E L a w ((Builtin.copy_ #[t,t2] ty #[v,.slice ad ry.len scap]).run P w) o:=by
    intro n off len cp0 π b b' rx r hxe hL hne he hov hset hoe
    subst hxe hoe
    rw[zxP]at hall
    obtain ⟨ek,xs,ys,rfl,rfl,rfl⟩:=RC.over_eq hov
    obtain ⟨us,rv,ev⟩:=hx
    cases rv with
    | vw e1 e2 e3 e4 e5 e6 e7 =>
     rename_i blk N sz cp base
     rw[hL]at e1; cases e1
     have hok:b.ok π:=by
      cases b with
      | box c=>exact e2
      | row rc ex =>
       cases π with
       | nil=>exact absurd rfl (hne rc ex rfl)
       | cons q π=>exact e2
      | map kv=>exact e2
     have hget:∃ N' vv,b.get π=.pv (.arr ek N' vv)∧xs=vv.toList:=by
      have he':(b.get π).elems=some (.s ek xs):=by
       cases b with
       | box c=>exact he
       | row rc ex =>
        cases π with
        | nil=>exact absurd rfl (hne rc ex rfl)
        | cons q π=>exact he
       | map kv=>exact he
      cases hg:b.get π with
      | pv z =>
       rw[hg]at he'
       cases z with
       | arr k' n' v' =>
        simp only[A.elems,Option.some.injEq,RC.s.injEq]at he'
        obtain ⟨rfl,he'⟩:=he'
        exact ⟨n',v',rfl,(eq_of_heq he').symm⟩
       | _=>simp[A.elems]at he'
      | _=>rw[hg]at he'; simp[A.elems]at he'
     obtain ⟨N',vv,hget,hxs⟩:=hget
     have hN:N=N'∧sz=1:=by
      rw[Blk.elems_len,he]at e3
      simp only[Option.map_some,Option.some.injEq,Prod.mk.injEq,RC.len,RC.sz]at e3
      rw[hxs]at e3
      exact ⟨by have:=e3.1; simp at this; exact this.symm,e3.2.symm⟩
     obtain ⟨rfl,rfl⟩:=hN
     have hlen:(RC.s ek xs).len=N:=by rw[hxs]; simp[RC.len]
     rw[hlen]at hset
     simp only[RC.len]at hset hall hov ⊢
     have hbase:∃ b o,zbT (β n)=some ⟨b,o,none⟩:=by
      have hk:=R.mem.blk n _ hL
      cases b with
      | box c =>
       obtain ⟨b,_,_,g1,_⟩:=hk
       exact ⟨b,0,by rw[g1]; rfl⟩
      | row rc ex =>
       obtain ⟨a2,cap,g1,g2,g3,g4⟩:=hk
       have hpos:=RC.ok_len hok
       rcases g4 with g4 | ⟨b2,o2,_,_,k1,_⟩
       ·omega
       ·exact ⟨b2,o2,by rw[g1,k1]; rfl⟩
      | map kv=>exact hok.elim
     obtain ⟨w',h1,h2⟩:=zH1 (t2:=t2) (ty:=ty) (scap:=scap) (ys:=ys) (base:=base) (cp:=cp) (off:=off) R hu hs hL hok hget hxs e4 e5 (e7.imp id fun ⟨b,o,h1,h2⟩=>⟨b,o,h1,by rw[h2,Nat.mul_one]⟩) hbase (src rfl) hset hall
     rw[ev]
     exact ⟨_,β,S,w',h1,by rw[zxP]; exact h2,zfV _⟩
   have row:∀ {n off len:Nat} {rc r:RC} {ex:Bool},L n=some (.row rc ex)→rc.over off (min ry.len len) ry=some r→o={ val:=intA (min ry.len len),upd:=[(n,.row r ex)],cut:=[(n,some [.i 0])] }→off+len≤rc.len →
     (∃ base cp,v=.slice base len cp∧len≤cp∧(cp=0∨∃ b o,zbT (β n)=some ⟨b,o,none⟩∧base=some ⟨b,o+off,none⟩))→Does k β S E L a w ((Builtin.copy_ #[t,t2] ty #[v,.slice ad ry.len scap]).run P w) o:=by
    rintro n off len rc r ex hL hov hoe hle ⟨base,cp,rfl,hc,hb⟩
    subst hoe
    rw[zxP]at hall
    obtain ⟨ek,xs,ys,rfl,rfl,rfl⟩:=RC.over_eq hov
    simp only[RC.len]at hall hle ⊢
    obtain ⟨w',h1,h2⟩:=copy_row (t2:=t2) (ty:=ty) (scap:=scap) R hu hs hL hle hc hb (src rfl) hall
    exact ⟨_,β,S,w',h1,by rw[zxP]; exact h2,zfV _⟩
   split at ho
   ·rename_i n
    obtain ⟨b,hL,ho⟩:=Option.bind_eq_some_iff.1 ho
    split at ho
    ·rename_i rc ex
     obtain ⟨r,hr,rfl⟩:=Option.map_eq_some_iff.1 ho
     refine row hL hr rfl (by omega) ?_
     obtain ⟨us,rv,ev⟩:=hx
     cases rv with
     | o e1 e2 =>
      obtain ⟨a2,cap,g1,g2,g3,g4⟩:=R.mem.blk _ _ hL
      refine ⟨a2,cap,by rw[ev,g1]; rfl,g2,?_⟩
      rcases g4 with g4 | ⟨b2,o2,_,_,k1,_⟩
      ·exact .inl g4
      ·exact .inr ⟨b2,o2,by rw[g1,k1]; rfl,by rw[k1]; rfl⟩
    ·cases ho
   ·rename_i n off len cp0
    obtain ⟨b,hL,ho⟩:=Option.bind_eq_some_iff.1 ho
    split at ho
    ·rename_i rc ex
     obtain ⟨r,hr,rfl⟩:=Option.map_eq_some_iff.1 ho
     obtain ⟨us,rv,ev⟩:=hx
     cases rv with
     | vw e1 e2 e3 e4 e5 e6 e7 =>
      rename_i blk N sz cp base
      rw[hL]at e1; cases e1
      have hN:N=rc.len∧sz=rc.sz:=by
       simp only[Blk.arrLen,Option.some.injEq,Prod.mk.injEq]at e3
       exact ⟨e3.1.symm,e3.2.symm⟩
      obtain ⟨rfl,rfl⟩:=hN
      have hsz:rc.sz=1:=by obtain ⟨_,_,_,rfl,_,_⟩:=RC.over_eq hr; rfl
      refine row hL hr rfl e4 ⟨base,cp,ev,e5,e7.imp id fun ⟨b,o,h1,h2⟩=>⟨b,o,h1,by rw[h2,hsz,Nat.mul_one]; cases rc<;>rfl⟩⟩
    ·rename_i c
     obtain ⟨rx,hrx,ho⟩:=Option.bind_eq_some_iff.1 ho
     obtain ⟨r,hr,ho⟩:=Option.bind_eq_some_iff.1 ho
     obtain ⟨q,hq,ho⟩:=Option.bind_eq_some_iff.1 ho
     obtain ⟨b',hb',rfl⟩:=Option.map_eq_some_iff.1 ho
     rw[A.elems_len,hrx]at hq
     cases hq
     refine arr rfl hL (fun rc ex h=>by cases h) ?_ hr hb' rfl
     show (Blk.box c |>.get []).elems=some rx
     rw[show (Blk.box c).get []=c from A.get_nil c]; exact hrx
    ·cases ho
   ·rename_i n q π off len cp0
    obtain ⟨b,hL,ho⟩:=Option.bind_eq_some_iff.1 ho
    obtain ⟨rx,hrx,ho⟩:=Option.bind_eq_some_iff.1 ho
    obtain ⟨r,hr,ho⟩:=Option.bind_eq_some_iff.1 ho
    obtain ⟨N,hN,ho⟩:=Option.bind_eq_some_iff.1 ho
    obtain ⟨b',hb',rfl⟩:=Option.map_eq_some_iff.1 ho
    rw[Blk.elems_len,hrx]at hN
    cases hN
    exact arr rfl hL (fun _ _ _ h=>by cases h) hrx hr hb' rfl
   ·cases ho
  ·cases ho
 ·cases ho
end
end Go.Proofs.YtnolgfdjcipmmaaDoor.M
