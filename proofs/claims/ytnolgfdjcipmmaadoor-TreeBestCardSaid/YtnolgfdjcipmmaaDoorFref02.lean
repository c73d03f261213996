/- Part of the proofs: what functions of the program do: plain functions, and the walks that show it. No condition. -/
import Derived.KernelRfl
import Derived.Test.YtnolgfdjcipmmaaDoorProg
import Derived.Test.YtnolgfdjcipmmaaDoorLe
import Derived.Test.YtnolgfdjcipmmaaDoorSwords
import Derived.Test.YtnolgfdjcipmmaaDoorSshaS
import Derived.Test.YtnolgfdjcipmmaaDoorSmerS
import Derived.Test.YtnolgfdjcipmmaaDoorSshaK
set_option linter.unusedVariables false
set_option linter.unusedSimpArgs false
set_option autoImplicit false
namespace Go.Proofs.YtnolgfdjcipmmaaDoor.M
open Go
noncomputable section
def ref02_List_h0:Nat→Int→(Vector UInt8 32)→(List UInt8)→Option (List UInt8)
 | 0,_,_,_=>none
 | k+1,i,h_,out=>bif decide (i < (32:Int)) then(if((0:Int)≤i)∧(i < (32:Int)) then
    if(((List.length (out++([(List.getD (Vector.toList h_) (Int.toNat i) (0:UInt8))]:List UInt8)))*(1:Nat))≤(70368744177664:Nat))∧((List.length (out++([(List.getD (Vector.toList h_) (Int.toNat i) (0:UInt8))]:List UInt8)))≤(70368744177664:Nat)) then
     ref02_List_h0 k (w64 (i+(1:Int))) h_ (out++([(List.getD (Vector.toList h_) (Int.toNat i) (0:UInt8))]:List UInt8))
    else none
   else none)
   else(some out)
def ref02_List (k:Nat) (h_0:Vector UInt8 32):Option (List UInt8) :=
 ref02_List_h0 k (0:Int) h_0 ([]:List UInt8)
theorem ztm (h:Vector UInt8 32):∃ k,ref02_List k h=some (Vector.toList h):=by
 show Ev (fun k=>ref02_List k h) _
 refine Ev.same (fun k=>ref02_List.eq_1 k h) ?_
 have e:Vector.toList h=zbP (fun i l=>l++[List.getD (Vector.toList h) i 0]) 0 32 []:=by rw[zlS (fun i=>List.getD (Vector.toList h) i 0),zEi]; rfl
 have hl:∀ m,(zbP (fun i l=>l++[List.getD (Vector.toList h) i 0]) 0 m []).length=m:=by
  intro m; rw[zlS (fun i=>List.getD (Vector.toList h) i 0)]; simp
 have gen:∀ m i,i+m=32→Ev (fun k=>ref02_List_h0 k ((i:Nat):Int) h (zbP (fun i l=>l++[List.getD (Vector.toList h) i 0]) 0 i [])) (Vector.toList h):=by
  intro m
  induction m with
  | zero =>
   intro i hi
   obtain rfl:i=32:=by omega
   refine Ev.done fun k=>?_
   rw[ref02_List_h0.eq_2,zau (by omega),←e]
  | succ m ih =>
   intro i hi
   refine Ev.step (fun k=>?_) (ih (i+1) (by omega))
   have h1:=hl (i+1)
   rw[zc7,Nat.zero_add]at h1
   rw[ref02_List_h0.eq_2,zan (by omega),if_pos (by omega),Int.toNat_natCast,h1,if_pos (by omega),zaj (by omega) (by omega),zc7,Nat.zero_add]
   rfl
 exact gen 32 0 rfl
end
end Go.Proofs.YtnolgfdjcipmmaaDoor.M
namespace Go.Proofs.YtnolgfdjcipmmaaDoor.M
open Go
noncomputable section
def ref02_New  : Vector UInt32 8 × Vector UInt32 64 :=
 ((Vector.setIfInBounds (Vector.setIfInBounds (Vector.setIfInBounds (Vector.setIfInBounds (Vector.setIfInBounds (Vector.setIfInBounds (Vector.setIfInBounds (Vector.setIfInBounds (Vector.replicate 8 (0:UInt32)) (0:Nat) (1779033703:UInt32)) (1:Nat) (3144134277:UInt32)) (2:Nat) (1013904242:UInt32)) (3:Nat) (2773480762:UInt32)) (4:Nat) (1359893119:UInt32)) (5:Nat) (2600822924:UInt32)) (6:Nat) (528734635:UInt32)) (7:Nat) (1541459225:UInt32)),(Vector.setIfInBounds (Vector.setIfInBounds (Vector.setIfInBounds (Vector.setIfInBounds (Vector.setIfInBounds (Vector.setIfInBounds (Vector.setIfInBounds (Vector.setIfInBounds (Vector.setIfInBounds (Vector.setIfInBounds (Vector.setIfInBounds (Vector.setIfInBounds (Vector.setIfInBounds (Vector.setIfInBounds (Vector.setIfInBounds (Vector.setIfInBounds (Vector.setIfInBounds (Vector.setIfInBounds (Vector.setIfInBounds (Vector.setIfInBounds (Vector.setIfInBounds (Vector.setIfInBounds (Vector.setIfInBounds (Vector.setIfInBounds (Vector.setIfInBounds (Vector.setIfInBounds (Vector.setIfInBounds (Vector.setIfInBounds (Vector.setIfInBounds (Vector.setIfInBounds (Vector.setIfInBounds (Vector.setIfInBounds (Vector.setIfInBounds (Vector.setIfInBounds (Vector.setIfInBounds (Vector.setIfInBounds (Vector.setIfInBounds (Vector.setIfInBounds (Vector.setIfInBounds (Vector.setIfInBounds (Vector.setIfInBounds (Vector.setIfInBounds (Vector.setIfInBounds (Vector.setIfInBounds (Vector.setIfInBounds (Vector.setIfInBounds (Vector.setIfInBounds (Vector.setIfInBounds (Vector.setIfInBounds (Vector.setIfInBounds (Vector.setIfInBounds (Vector.setIfInBounds (Vector.setIfInBounds (Vector.setIfInBounds (Vector.setIfInBounds (Vector.setIfInBounds (Vector.setIfInBounds (Vector.setIfInBounds (Vector.setIfInBounds (Vector.setIfInBounds (Vector.setIfInBounds (Vector.setIfInBounds (Vector.setIfInBounds (Vector.setIfInBounds (Vector.replicate 64 (0:UInt32)) (0:Nat) (1116352408:UInt32)) (1:Nat) (1899447441:UInt32)) (2:Nat) (3049323471:UInt32)) (3:Nat) (3921009573:UInt32)) (4:Nat) (961987163:UInt32)) (5:Nat) (1508970993:UInt32)) (6:Nat) (2453635748:UInt32)) (7:Nat) (2870763221:UInt32)) (8:Nat) (3624381080:UInt32)) (9:Nat) (310598401:UInt32)) (10:Nat) (607225278:UInt32)) (11:Nat) (1426881987:UInt32)) (12:Nat) (1925078388:UInt32)) (13:Nat) (2162078206:UInt32)) (14:Nat) (2614888103:UInt32)) (15:Nat) (3248222580:UInt32)) (16:Nat) (3835390401:UInt32)) (17:Nat) (4022224774:UInt32)) (18:Nat) (264347078:UInt32)) (19:Nat) (604807628:UInt32)) (20:Nat) (770255983:UInt32)) (21:Nat) (1249150122:UInt32)) (22:Nat) (1555081692:UInt32)) (23:Nat) (1996064986:UInt32)) (24:Nat) (2554220882:UInt32)) (25:Nat) (2821834349:UInt32)) (26:Nat) (2952996808:UInt32)) (27:Nat) (3210313671:UInt32)) (28:Nat) (3336571891:UInt32)) (29:Nat) (3584528711:UInt32)) (30:Nat) (113926993:UInt32)) (31:Nat) (338241895:UInt32)) (32:Nat) (666307205:UInt32)) (33:Nat) (773529912:UInt32)) (34:Nat) (1294757372:UInt32)) (35:Nat) (1396182291:UInt32)) (36:Nat) (1695183700:UInt32)) (37:Nat) (1986661051:UInt32)) (38:Nat) (2177026350:UInt32)) (39:Nat) (2456956037:UInt32)) (40:Nat) (2730485921:UInt32)) (41:Nat) (2820302411:UInt32)) (42:Nat) (3259730800:UInt32)) (43:Nat) (3345764771:UInt32)) (44:Nat) (3516065817:UInt32)) (45:Nat) (3600352804:UInt32)) (46:Nat) (4094571909:UInt32)) (47:Nat) (275423344:UInt32)) (48:Nat) (430227734:UInt32)) (49:Nat) (506948616:UInt32)) (50:Nat) (659060556:UInt32)) (51:Nat) (883997877:UInt32)) (52:Nat) (958139571:UInt32)) (53:Nat) (1322822218:UInt32)) (54:Nat) (1537002063:UInt32)) (55:Nat) (1747873779:UInt32)) (56:Nat) (1955562222:UInt32)) (57:Nat) (2024104815:UInt32)) (58:Nat) (2227730452:UInt32)) (59:Nat) (2361852424:UInt32)) (60:Nat) (2428436474:UInt32)) (61:Nat) (2756734187:UInt32)) (62:Nat) (3204031479:UInt32)) (63:Nat) (3329325298:UInt32)))
theorem ztN:ref02_New=(zcS,shaK):=by kernel_rfl
end
end Go.Proofs.YtnolgfdjcipmmaaDoor.M
namespace Go.Proofs.YtnolgfdjcipmmaaDoor.M
open Go
noncomputable section
def ref02_Padded_h2:Nat→UInt64→Int→(List UInt8)→Option (List UInt8)
 | 0,_,_,_=>none
 | k+1,n,i,out=>bif decide (i < (8:Int)) then(if(((List.length (out++([(UInt64.toUInt8 (zaa n (UInt64.toNat (UInt64.ofInt (w64 ((56:Int) - (w64 ((8:Int)*i))))))))]:List UInt8)))*(1:Nat))≤(70368744177664:Nat))∧((List.length (out++([(UInt64.toUInt8 (zaa n (UInt64.toNat (UInt64.ofInt (w64 ((56:Int) - (w64 ((8:Int)*i))))))))]:List UInt8)))≤(70368744177664:Nat)) then
    ref02_Padded_h2 k n (w64 (i+(1:Int))) (out++([(UInt64.toUInt8 (zaa n (UInt64.toNat (UInt64.ofInt (w64 ((56:Int) - (w64 ((8:Int)*i))))))))]:List UInt8))
   else none)
   else(some out)
def ref02_Padded_h0:Nat→(List UInt8)→(List UInt8)→Option (List UInt8)
 | 0,_,_=>none
 | k+1,b,out=>bif !(decide ((Int.tmod (((List.length out):Nat):Int) (64:Int))=(56:Int))) then(if(((List.length (out++([(0:UInt8)]:List UInt8)))*(1:Nat))≤(70368744177664:Nat))∧((List.length (out++([(0:UInt8)]:List UInt8)))≤(70368744177664:Nat)) then
    ref02_Padded_h0 k b (out++([(0:UInt8)]:List UInt8))
   else none)
   else(ref02_Padded_h2 k ((8:UInt64)*(UInt64.ofInt (((List.length b):Nat):Int))) (0:Int) out)
def ref02_Padded (k:Nat) (b:List UInt8):Option (List UInt8) :=
 if(
   ((List.length (([]:List UInt8)++b))*(1:Nat))≤(70368744177664:Nat))∧((List.length (([]:List UInt8)++b))≤(70368744177664:Nat)) then
  if(((List.length ((([]:List UInt8)++b)++([(128:UInt8)]:List UInt8)))*(1:Nat))≤(70368744177664:Nat))∧((List.length ((([]:List UInt8)++b)++([(128:UInt8)]:List UInt8)))≤(70368744177664:Nat)) then
   ref02_Padded_h0 k b ((([]:List UInt8)++b)++([(128:UInt8)]:List UInt8))
  else none
 else none
theorem zrF (b out:List UInt8) (ho:out.length≤1100000000000):Ev (fun k=>ref02_Padded_h2 k ((8:UInt64)*UInt64.ofInt ((b.length:Nat):Int)) 0 out) (out++zcW (zaq (UInt64.ofInt ((b.length:Nat):Int)) 3) 8):=by
 generalize hn:UInt64.ofInt ((b.length:Nat):Int)=n
 have e8:(8:UInt64)*n=zaq n 3:=by
  apply UInt64.toNat_inj.1
  unfold zaq
  rw[UInt64.toNat_mul,UInt64.toNat_ofNat',show (8:UInt64).toNat=8 from rfl,show min 3 64=3 from rfl,Nat.mul_comm]
 rw[e8]
 generalize zaq n 3=m
 refine Ev.upI (H:=fun k i out=>ref02_Padded_h2 k m i out) (lo:=0) (n:=8) (step:=fun i l=>l++[(zaa m (56 - 8*i)).toUInt8]) (fun i l=>l.length=out.length+i) ?_ ?_ 8 0 out (Nat.le_refl 0) rfl rfl ?_
 ·intro i s _ _ h
  simp[h]; omega
 ·intro i s _ hi h e
  refine Ev.step (fun k=>?_) e
  have a1:w64 (8*(i:Int))=((8*i:Nat):Int):=by rw[zaj (by omega) (by omega)]; omega
  have a2:w64 (56 - ((8*i:Nat):Int))=((56 - 8*i:Nat):Int):=by rw[zaj (by omega) (by omega)]; omega
  have a3:(UInt64.ofInt ((56 - 8*i:Nat):Int)).toNat=56 - 8*i:=by
   have:i=0∨i=1∨i=2∨i=3∨i=4∨i=5∨i=6∨i=7:=by omega
   rcases this with h | h | h | h | h | h | h | h<;>subst h<;>rfl
  rw[ref02_Padded_h2.eq_2,zan (by omega),a1,a2,a3,if_pos (by simp[h]; omega),zaj (by omega) (by omega)]
 ·refine Ev.done fun k=>?_
  rw[ref02_Padded_h2.eq_2,zau (by omega),zlS (fun i=>(zaa m (56 - 8*i)).toUInt8)]
  rfl
theorem zoX (b:List UInt8) (hb:b.length≤1099511627776):∃ k,ref02_Padded k b=some (zcg b):=by
 show Ev (fun k=>ref02_Padded k b) _
 refine Ev.same (g:=fun k=>ref02_Padded_h0 k b (b++[128])) (fun k=>by rw[ref02_Padded.eq_1,List.nil_append,if_pos (by omega),if_pos (by simp; omega)]) ?_
 have hz:zca b.length < 64:=Nat.mod_lt _ (by omega)
 have gen:∀ m i,i+m=zca b.length→Ev (fun k=>ref02_Padded_h0 k b (b++[128]++List.replicate i 0)) (zcg b):=by
  intro m
  induction m with
  | zero =>
   intro i hi
   obtain rfl:i=zca b.length:=by omega
   refine Ev.step (fun k=>?_) (zrF b (b++[128]++List.replicate (zca b.length) 0) (by simp; omega))
   have hl:(b++[128]++List.replicate (zca b.length) 0).length % 64=56:=by simp[zca]; omega
   rw[ref02_Padded_h0.eq_2,decide_eq_true (by
    have:Int.tmod (((b++[128]++List.replicate (zca b.length) 0).length:Nat):Int) 64=(((b++[128]++List.replicate (zca b.length) 0).length % 64:Nat):Int):=rfl
    rw[this,hl]; rfl)]
   rfl
  | succ m ih =>
   intro i hi
   refine Ev.step (fun k=>?_) (ih (i+1) (by omega))
   have hl:(b++[128]++List.replicate i 0).length % 64≠56:=by simp[zca]at hi ⊢; omega
   rw[ref02_Padded_h0.eq_2,decide_eq_false (by
    have:Int.tmod (((b++[128]++List.replicate i 0).length:Nat):Int) 64=(((b++[128]++List.replicate i 0).length % 64:Nat):Int):=rfl
    rw[this]; omega),Bool.not_false,cond_true,if_pos (by simp; omega),List.append_assoc,←List.replicate_succ']
 have:=gen (zca b.length) 0 (by omega)
 simpa using this
end
end Go.Proofs.YtnolgfdjcipmmaaDoor.M
namespace Go.Proofs.YtnolgfdjcipmmaaDoor.M
open Go
noncomputable section
def ref02_turn (x_0:UInt32) (n:UInt64):UInt32 :=
 ((zaP x_0 (UInt64.toNat n)) ||| (zcb x_0 (UInt64.toNat ((32:UInt64) - n))))
end
end Go.Proofs.YtnolgfdjcipmmaaDoor.M
namespace Go.Proofs.YtnolgfdjcipmmaaDoor.M
open Go
noncomputable section
def ref02_round_h10:Nat→Int→(Vector UInt32 8)→(Vector UInt32 8)→(Vector UInt32 8)→Option (Vector UInt32 8)
 | 0,_,_,_,_=>none
 | k+1,i,s,t6,v=>bif decide (i < (8:Int)) then(if((0:Int)≤i)∧(i < (8:Int)) then
    ref02_round_h10 k (w64 (i+(1:Int))) s t6 (Vector.setIfInBounds v (Int.toNat i) ((List.getD (Vector.toList v) (Int.toNat i) (0:UInt32))+(List.getD (Vector.toList s) (Int.toNat i) (0:UInt32))))
   else none)
   else(some v)
mutual
def ref02_round_h6:Nat→Int→(Vector UInt32 8)→(Vector UInt32 64)→(Vector UInt32 8)→(Vector UInt32 64)→(Vector UInt32 8)→Option (Vector UInt32 8)
 | 0,_,_,_,_,_,_=>none
 | k+1,i,s,k_,t6,w,v=>bif decide (i < (64:Int)) then(if((0:Int)≤i)∧(i < (64:Int)) then
    ref02_round_h8 k i (((((List.getD (Vector.toList v) (7:Nat) (0:UInt32))+(((ref02_turn (List.getD (Vector.toList v) (4:Nat) (0:UInt32)) (6:UInt64)) ^^^ (ref02_turn (List.getD (Vector.toList v) (4:Nat) (0:UInt32)) (11:UInt64))) ^^^ (ref02_turn (List.getD (Vector.toList v) (4:Nat) (0:UInt32)) (25:UInt64))))+(((List.getD (Vector.toList v) (4:Nat) (0:UInt32)) &&& (List.getD (Vector.toList v) (5:Nat) (0:UInt32))) ^^^ ((~~~(List.getD (Vector.toList v) (4:Nat) (0:UInt32))) &&& (List.getD (Vector.toList v) (6:Nat) (0:UInt32)))))+(List.getD (Vector.toList k_) (Int.toNat i) (0:UInt32)))+(List.getD (Vector.toList w) (Int.toNat i) (0:UInt32))) ((((ref02_turn (List.getD (Vector.toList v) (0:Nat) (0:UInt32)) (2:UInt64)) ^^^ (ref02_turn (List.getD (Vector.toList v) (0:Nat) (0:UInt32)) (13:UInt64))) ^^^ (ref02_turn (List.getD (Vector.toList v) (0:Nat) (0:UInt32)) (22:UInt64)))+((((List.getD (Vector.toList v) (0:Nat) (0:UInt32)) &&& (List.getD (Vector.toList v) (1:Nat) (0:UInt32))) ^^^ ((List.getD (Vector.toList v) (0:Nat) (0:UInt32)) &&& (List.getD (Vector.toList v) (2:Nat) (0:UInt32)))) ^^^ ((List.getD (Vector.toList v) (1:Nat) (0:UInt32)) &&& (List.getD (Vector.toList v) (2:Nat) (0:UInt32))))) (7:Int) s k_ t6 w v
   else none)
   else(ref02_round_h10 k (0:Int) s t6 v)
def ref02_round_h8:Nat→Int→UInt32→UInt32→Int→(Vector UInt32 8)→(Vector UInt32 64)→(Vector UInt32 8)→(Vector UInt32 64)→(Vector UInt32 8)→Option (Vector UInt32 8)
 | 0,_,_,_,_,_,_,_,_,_=>none
 | k+1,i,t,u,j,s,k_,t6,w,v=>bif decide ((0:Int) < j) then(if((0:Int)≤(w64 (j - (1:Int))))∧((w64 (j - (1:Int))) < (8:Int)) then
    if((0:Int)≤j)∧(j < (8:Int)) then
     ref02_round_h8 k i t u (w64 (j - (1:Int))) s k_ t6 w (Vector.setIfInBounds v (Int.toNat j) (List.getD (Vector.toList v) (Int.toNat (w64 (j - (1:Int)))) (0:UInt32)))
    else none
   else none)
   else(ref02_round_h6 k (w64 (i+(1:Int))) s k_ t6 w (Vector.setIfInBounds (Vector.setIfInBounds v (4:Nat) ((List.getD (Vector.toList v) (4:Nat) (0:UInt32))+t)) (0:Nat) (t+u)))
end
def ref02_round_h4:Nat→Int→(Vector UInt32 8)→(Vector UInt32 64)→(Vector UInt32 8)→(Vector UInt32 64)→Option (Vector UInt32 8)
 | 0,_,_,_,_,_=>none
 | k+1,i,s,k_,t6,w=>bif decide (i < (64:Int)) then(if((0:Int)≤(w64 (i - (15:Int))))∧((w64 (i - (15:Int))) < (64:Int)) then
    if(
      (0:Int)≤(w64 (i - (2:Int))))∧((w64 (i - (2:Int))) < (64:Int)) then
     if(
       (0:Int)≤(w64 (i - (16:Int))))∧((w64 (i - (16:Int))) < (64:Int)) then
      if(
        (0:Int)≤(w64 (i - (7:Int))))∧((w64 (i - (7:Int))) < (64:Int)) then
       if((0:Int)≤i)∧(i < (64:Int)) then
        ref02_round_h4 k (w64 (i+(1:Int))) s k_ t6 (Vector.setIfInBounds w (Int.toNat i) ((((List.getD (Vector.toList w) (Int.toNat (w64 (i - (16:Int)))) (0:UInt32))+(((ref02_turn (List.getD (Vector.toList w) (Int.toNat (w64 (i - (15:Int)))) (0:UInt32)) (7:UInt64)) ^^^ (ref02_turn (List.getD (Vector.toList w) (Int.toNat (w64 (i - (15:Int)))) (0:UInt32)) (18:UInt64))) ^^^ (zaP (List.getD (Vector.toList w) (Int.toNat (w64 (i - (15:Int)))) (0:UInt32)) (3:Nat))))+(List.getD (Vector.toList w) (Int.toNat (w64 (i - (7:Int)))) (0:UInt32)))+(((ref02_turn (List.getD (Vector.toList w) (Int.toNat (w64 (i - (2:Int)))) (0:UInt32)) (17:UInt64)) ^^^ (ref02_turn (List.getD (Vector.toList w) (Int.toNat (w64 (i - (2:Int)))) (0:UInt32)) (19:UInt64))) ^^^ (zaP (List.getD (Vector.toList w) (Int.toNat (w64 (i - (2:Int)))) (0:UInt32)) (10:Nat)))))
       else none
      else none
     else none
    else none
   else none)
   else(ref02_round_h6 k (0:Int) s k_ t6 w s)
mutual
def ref02_round_h0:Nat→(List UInt8)→Int→(Vector UInt32 8)→(Vector UInt32 64)→(Vector UInt32 8)→(Vector UInt32 64)→Option (Vector UInt32 8)
 | 0,_,_,_,_,_,_=>none
 | k+1,b,i,s,k_,t6,w=>bif decide (i < (16:Int)) then(ref02_round_h2 k b i (0:Int) s k_ t6 w)
   else(ref02_round_h4 k (16:Int) s k_ t6 w)
def ref02_round_h2:Nat→(List UInt8)→Int→Int→(Vector UInt32 8)→(Vector UInt32 64)→(Vector UInt32 8)→(Vector UInt32 64)→Option (Vector UInt32 8)
 | 0,_,_,_,_,_,_,_=>none
 | k+1,b,i,j,s,k_,t6,w=>bif decide (j < (4:Int)) then(if((0:Int)≤i)∧(i < (64:Int)) then
    if((0:Int)≤(w64 ((w64 ((4:Int)*i))+j)))∧((w64 ((w64 ((4:Int)*i))+j)) < (((List.length b):Nat):Int)) then
     ref02_round_h2 k b i (w64 (j+(1:Int))) s k_ t6 (Vector.setIfInBounds w (Int.toNat i) (((256:UInt32)*(List.getD (Vector.toList w) (Int.toNat i) (0:UInt32)))+(UInt8.toUInt32 (List.getD b (Int.toNat (w64 ((w64 ((4:Int)*i))+j))) (0:UInt8)))))
    else none
   else none)
   else(ref02_round_h0 k b (w64 (i+(1:Int))) s k_ t6 w)
end
def ref02_round (k:Nat) (s:Vector UInt32 8) (b:List UInt8) (k_2:Vector UInt32 64):Option (Vector UInt32 8) :=
 ref02_round_h0 k b (0:Int) s k_2 (Vector.replicate 8 (0:UInt32)) (Vector.replicate 64 (0:UInt32))
theorem zol (x:UInt32):ref02_turn x 2=shT x 2∧ref02_turn x 6=shT x 6∧ref02_turn x 7=shT x 7∧ref02_turn x 11=shT x 11∧ref02_turn x 13=shT x 13∧ref02_turn x 17=shT x 17∧ref02_turn x 18=shT x 18∧ref02_turn x 19=shT x 19∧ref02_turn x 22=shT x 22∧ref02_turn x 25=shT x 25:=by
 refine ⟨?_,?_,?_,?_,?_,?_,?_,?_,?_,?_⟩<;>rfl
theorem zHL (x:UInt32) (y:UInt8):(256:UInt32)*x+y.toUInt32=zFP x y:=by
 unfold zFP zcb
 apply UInt32.toNat_inj.1
 rw[UInt32.toNat_add,UInt32.toNat_mul,UInt32.toNat_or,UInt32.toNat_ofNat',UInt8.toNat_toUInt32]
 have hy:y.toNat < 2 ^ 8:=y.toNat_lt
 have hx:x.toNat < 2 ^ 32:=x.toNat_lt
 have e:(256:UInt32).toNat=256:=by decide
 rw[e]
 rw[show min 8 32=8 from rfl]
 have h1:x.toNat*2 ^ 8 % 2 ^ 32=2 ^ 8*(x.toNat % 2 ^ 24):=by omega
 rw[h1,←Nat.two_pow_add_eq_or_of_lt hy]
 omega
theorem zuM (a b c:UInt32):a+b+c=a+c+b:=by rw[UInt32.add_assoc,UInt32.add_comm b c,←UInt32.add_assoc]
theorem zry (s t6 v:Vector UInt32 8):Ev (fun k=>ref02_round_h10 k 0 s t6 v) (zqj s v):=by
 refine Ev.up (H:=fun k i v=>ref02_round_h10 k i s t6 v) (lo:=0) (n:=8) (step:=fun i (a:Vector UInt32 8)=>Vector.setIfInBounds a i (List.getD (Vector.toList a) i 0+List.getD (Vector.toList s) i 0)) ?_ 8 0 v (Nat.le_refl 0) rfl ?_
 ·intro i v _ hi e
  refine Ev.step (fun k=>?_) e
  rw[ref02_round_h10.eq_2,zan (by omega),if_pos (by omega),zaj (by omega) (by omega),Int.toNat_natCast]
 ·refine Ev.done fun k=>?_
  rw[ref02_round_h10.eq_2,zau (by omega),zsM]
  refine congrArg some (vext 0 fun j hj=>?_)
  rw[show List.getD (Vector.toList (zqj v s)) j 0=shG v j+shG s j from zx0 (fun i=>shG v i+shG s i) j hj,
   show List.getD (Vector.toList (zqj s v)) j 0=shG s j+shG v j from zx0 (fun i=>shG s i+shG v i) j hj,UInt32.add_comm]
theorem zuS {r:Vector UInt32 8} (i:Nat) (hi:i < 64) (t u:UInt32) (s t6:Vector UInt32 8) (kt w:Vector UInt32 64) (v:Vector UInt32 8)
  (e:Ev (fun k=>ref02_round_h6 k ((i:Int)+1) s kt t6 w #v[t+u,shG v 0,shG v 1,shG v 2,shG v 3+t,shG v 4,shG v 5,shG v 6]) r):Ev (fun k=>ref02_round_h8 k i t u 7 s kt t6 w v) r:=by
 have st:∀ (j:Nat) (v:Vector UInt32 8),0 < j→j≤7→Ev (fun k=>ref02_round_h8 k i t u ((j:Int) - 1) s kt t6 w (Vector.setIfInBounds v j (List.getD (Vector.toList v) (j - 1) 0))) r→Ev (fun k=>ref02_round_h8 k i t u j s kt t6 w v) r:=by
  intro j v h0 h7 e
  refine Ev.step (fun k=>?_) e
  have a1:w64 ((j:Int) - 1)=((j - 1:Nat):Int):=by rw[zaj (by omega) (by omega)]; omega
  rw[ref02_round_h8.eq_2,zan (by omega),a1,if_pos (by omega),if_pos (by omega)]
  simp only[Int.toNat_natCast]
  rw[show ((j - 1:Nat):Int)=(j:Int) - 1 by omega]
 refine st 7 v (by omega) (by omega) (st 6 _ (by omega) (by omega) (st 5 _ (by omega) (by omega) (st 4 _ (by omega) (by omega) (st 3 _ (by omega) (by omega) (st 2 _ (by omega) (by omega) (st 1 _ (by omega) (by omega) ?_))))))
 refine Ev.step (fun k=>?_) e
 rw[ref02_round_h8.eq_2,zau (by omega),zaj (by omega) (by omega)]
 refine congrArg (fun y=>ref02_round_h6 k ((i:Int)+1) s kt t6 w y) ?_
 refine vext 0 fun j hj=>?_
 have:j=0∨j=1∨j=2∨j=3∨j=4∨j=5∨j=6∨j=7:=by omega
 rcases this with h | h | h | h | h | h | h | h<;>subst h<;>simp[zax,shG]
theorem zt1 (s t6:Vector UInt32 8) (kt w:Vector UInt32 64) (v:Vector UInt32 8):Ev (fun k=>ref02_round_h6 k 0 s kt t6 w v) (zqj s (zbP (zsX kt w) 0 64 v)):=by
 refine Ev.up (H:=fun k i v=>ref02_round_h6 k i s kt t6 w v) (lo:=0) (n:=64) (step:=zsX kt w) ?_ 64 0 v (Nat.le_refl 0) rfl ?_
 ·intro i v _ hi e
  refine Ev.step (fun k=>?_) (zuS i hi (shT1 kt w i v) (shU1 v) s t6 kt w v e)
  rw[ref02_round_h6.eq_2,zan (by omega),if_pos (by omega),Int.toNat_natCast]
  have t:=fun x=>zol x
  simp only[(t _).1,(t _).2.1,(t _).2.2.1,(t _).2.2.2.1,(t _).2.2.2.2.1,(t _).2.2.2.2.2.1,(t _).2.2.2.2.2.2.1,(t _).2.2.2.2.2.2.2.1,(t _).2.2.2.2.2.2.2.2.1,(t _).2.2.2.2.2.2.2.2.2]
  rfl
 ·refine Ev.step (fun k=>?_) (zry s t6 _)
  rw[ref02_round_h6.eq_2,zau (by omega)]
theorem ztr (s:Vector UInt32 8) (b:List UInt8) (kt:Vector UInt32 64) (hb:64≤b.length):∃ k,ref02_round k s b kt=some (zh7 kt s (fun i=>List.getD b i 0)):=by
 show Ev (fun k=>ref02_round k s b kt) _
 refine Ev.same (fun k=>ref02_round.eq_1 k s b kt) ?_
 let t6:Vector UInt32 8:=Vector.replicate 8 0
 let B:Nat→UInt8:=fun i=>List.getD b i 0
 have h4:Ev (fun k=>ref02_round_h4 k ((16:Nat):Int) s kt t6 (zbP (zl4 B) 0 16 (Vector.replicate 64 0))) (zh7 kt s B):=by
  have:Ev (fun k=>ref02_round_h4 k ((64:Nat):Int) s kt t6 (shW B)) (zh7 kt s B):=by
   refine Ev.step (fun k=>?_) (zt1 s t6 kt (shW B) s)
   rw[ref02_round_h4.eq_2,zau (by omega)]
  refine Ev.up (H:=fun k i w=>ref02_round_h4 k i s kt t6 w) (lo:=16) (n:=64) (step:=fun i w=>Vector.setIfInBounds w i (zwn w i)) ?_ 48 16 _ (Nat.le_refl 16) rfl this
  intro i w h16 hi e
  refine Ev.step (fun k=>?_) e
  have a1:w64 ((i:Int) - 15)=((i - 15:Nat):Int):=by rw[zaj (by omega) (by omega)]; omega
  have a2:w64 ((i:Int) - 2)=((i - 2:Nat):Int):=by rw[zaj (by omega) (by omega)]; omega
  have a3:w64 ((i:Int) - 16)=((i - 16:Nat):Int):=by rw[zaj (by omega) (by omega)]; omega
  have a4:w64 ((i:Int) - 7)=((i - 7:Nat):Int):=by rw[zaj (by omega) (by omega)]; omega
  rw[ref02_round_h4.eq_2,zan (by omega),a1,a2,a3,a4,if_pos (by omega),if_pos (by omega),if_pos (by omega),if_pos (by omega),if_pos (by omega),zaj (by omega) (by omega)]
  simp only[Int.toNat_natCast]
  have t:=fun x=>zol x
  simp only[(t _).1,(t _).2.1,(t _).2.2.1,(t _).2.2.2.1,(t _).2.2.2.2.1,(t _).2.2.2.2.2.1,(t _).2.2.2.2.2.2.1,(t _).2.2.2.2.2.2.2.1,(t _).2.2.2.2.2.2.2.2.1,(t _).2.2.2.2.2.2.2.2.2]
  refine congrArg (fun y=>ref02_round_h4 k ((i:Int)+1) s kt t6 (Vector.setIfInBounds w i y)) ?_
  unfold zwn
  rw[zuM (List.getD (Vector.toList w) (i - 16) 0)]
 refine Ev.up (H:=fun k i w=>ref02_round_h0 k b i s kt t6 w) (lo:=0) (n:=16) (step:=zl4 B) ?_ 16 0 _ (Nat.le_refl 0) rfl ?_
 ·intro i w _ hi e
  refine Ev.step (g:=fun k=>ref02_round_h2 k b i 0 s kt t6 w) (fun k=>?_) ?_
  ·rw[ref02_round_h0.eq_2,zan (by omega)]
  ·refine Ev.up (H:=fun k j w=>ref02_round_h2 k b i j s kt t6 w) (lo:=0) (n:=4) (step:=fun j w=>Vector.setIfInBounds w i (zFP (List.getD (Vector.toList w) i 0) (B (4*i+j)))) ?_ 4 0 w (Nat.le_refl 0) rfl ?_
   ·intro j w _ hj e
    refine Ev.step (fun k=>?_) e
    have a1:w64 (4*(i:Int))=((4*i:Nat):Int):=by rw[zaj (by omega) (by omega)]; omega
    have a2:w64 (((4*i:Nat):Int)+(j:Int))=((4*i+j:Nat):Int):=by rw[zaj (by omega) (by omega)]; omega
    rw[ref02_round_h2.eq_2,zan (by omega),a1,a2,if_pos (by omega),if_pos (by omega),zaj (by omega) (by omega)]
    simp only[Int.toNat_natCast,zHL]
    rfl
   ·refine Ev.step (fun k=>?_) e
    rw[ref02_round_h2.eq_2,zau (by omega),zaj (by omega) (by omega)]
    rfl
 ·refine Ev.step (fun k=>?_) h4
  rw[ref02_round_h0.eq_2,zau (by omega)]
  rfl
theorem zqN (s:Vector UInt32 8) (b:List UInt8) (kt:Vector UInt32 64) (hb:64≤b.length):∃ k,ref02_round k s b kt=some (zem kt s (fun i=>List.getD b i 0)):=by
 rw[zg0]; exact ztr s b kt hb
end
end Go.Proofs.YtnolgfdjcipmmaaDoor.M
namespace Go.Proofs.YtnolgfdjcipmmaaDoor.M
open Go
noncomputable section
def ref02_hSum_h2:Nat→Int→(Vector UInt8 32)→(Vector UInt32 8)→(Vector UInt8 32)→Option (Vector UInt8 32)
 | 0,_,_,_,_=>none
 | k+1,i,t4,s,out=>bif decide (i < (32:Int)) then(if((0:Int)≤(w64 (Int.tdiv i (4:Int))))∧((w64 (Int.tdiv i (4:Int))) < (8:Int)) then
    if((0:Int)≤i)∧(i < (32:Int)) then
     ref02_hSum_h2 k (w64 (i+(1:Int))) t4 s (Vector.setIfInBounds out (Int.toNat i) (UInt32.toUInt8 (zaP (List.getD (Vector.toList s) (Int.toNat (w64 (Int.tdiv i (4:Int)))) (0:UInt32)) (UInt64.toNat (UInt64.ofInt (w64 ((24:Int) - (w64 ((8:Int)*(Int.tmod i (4:Int)))))))))))
    else none
   else none)
   else(some out)
def ref02_hSum_h0:Nat→(Vector UInt32 8)→(Vector UInt32 64)→Int→(Vector UInt8 32)→(List UInt8)→(Vector UInt32 8)→Option (Vector UInt8 32)
 | 0,_,_,_,_,_,_=>none
 | k+1,h_,h1,i,t4,p,s=>bif decide (i < (((List.length p):Nat):Int)) then(if((0:Int)≤i)∧((i≤(w64 (i+(64:Int))))∧((w64 (i+(64:Int)))≤(((List.length p):Nat):Int))) then
    if(64:Nat)≤(List.length (List.take ((Int.toNat (w64 (i+(64:Int)))) - (Int.toNat i)) (List.drop (Int.toNat i) p))) then
     ref02_hSum_h0 k h_ h1 (w64 (i+(64:Int))) t4 p (zem h1 s (fun(z7:Nat)=>(List.getD (List.take ((Int.toNat (w64 (i+(64:Int)))) - (Int.toNat i)) (List.drop (Int.toNat i) p)) z7 (0:UInt8))))
    else none
   else none)
   else(ref02_hSum_h2 k (0:Int) t4 s (Vector.replicate 32 (0:UInt8)))
def ref02_hSum (k:Nat) (h_0_begin:Vector UInt32 8) (h_0_k:Vector UInt32 64) (b:List UInt8):Option (Vector UInt8 32) :=
 if(List.length b)≤(1099511627776:Nat) then
  ref02_hSum_h0 k h_0_begin h_0_k (0:Int) (Vector.replicate 32 (0:UInt8)) (zcg b) h_0_begin
 else none
theorem zwW (s:Vector UInt32 8) (t4 out:Vector UInt8 32):Ev (fun k=>ref02_hSum_h2 k 0 t4 s out) (zvB s):=by
 refine Ev.up (H:=fun k i out=>ref02_hSum_h2 k i t4 s out) (lo:=0) (n:=32) (step:=fun i out=>Vector.setIfInBounds out i (zm5 s i)) ?_ 32 0 out (Nat.le_refl 0) rfl ?_
 ·intro i out _ hi e
  refine Ev.step (fun k=>?_) e
  have a1:Int.tdiv (i:Int) 4=((i / 4:Nat):Int):=rfl
  have a2:Int.tmod (i:Int) 4=((i % 4:Nat):Int):=rfl
  have a3:w64 (((i / 4:Nat):Int))=((i / 4:Nat):Int):=zaj (by omega) (by omega)
  have a4:w64 (8*((i % 4:Nat):Int))=((8*(i % 4):Nat):Int):=by rw[zaj (by omega) (by omega)]; omega
  have a5:w64 (24 - ((8*(i % 4):Nat):Int))=((24 - 8*(i % 4):Nat):Int):=by rw[zaj (by omega) (by omega)]; omega
  have a6:(UInt64.ofInt ((24 - 8*(i % 4):Nat):Int)).toNat=24 - 8*(i % 4):=by
   have:i % 4=0∨i % 4=1∨i % 4=2∨i % 4=3:=by omega
   rcases this with h | h | h | h<;>rw[h]<;>rfl
  rw[ref02_hSum_h2.eq_2,zan (by omega),a1,a2,a3,a4,a5,a6,if_pos (by omega),if_pos (by omega),zaj (by omega) (by omega)]
  rfl
 ·refine Ev.done fun k=>?_
  rw[ref02_hSum_h2.eq_2,zau (by omega),znz (fun i=>zm5 s i)]
  rfl
theorem zsD (hb:Vector UInt32 8) (hk:Vector UInt32 64) (b:List UInt8) (hp:b.length≤1099511627776∧hb=zcS∧hk=shaK):∃ k,ref02_hSum k hb hk b=some (za4 b):=by
 obtain ⟨h1,rfl,rfl⟩:=hp
 show Ev (fun k=>ref02_hSum k zcS shaK b) _
 refine Ev.same (fun k=>by rw[ref02_hSum.eq_1,if_pos h1]) ?_
 obtain ⟨p1,p2,p3⟩:=zvV b
 have gen:∀ n s,n*64≤(zcg b).length→s=zjq (zcg b) n→Ev (fun k=>ref02_hSum_h0 k zcS shaK ((64*n:Nat):Int) (Vector.replicate 32 0) (zcg b) s) (za4 b):=by
  intro n s hn hs
  generalize hm:(zcg b).length / 64 - n=m
  induction m generalizing n s with
  | zero =>
   have h1:n=(zcg b).length / 64:=by omega
   have h2:za4 b=zvB s:=by rw[zf8,←h1,←hs]
   rw[h2]
   refine Ev.step (fun k=>?_) (zwW s (Vector.replicate 32 0) (Vector.replicate 32 0))
   rw[ref02_hSum_h0.eq_2,zau (by omega)]
  | succ m ih =>
   refine Ev.step (fun k=>?_) (ih (n+1) (zjq (zcg b) (n+1)) (by omega) rfl (by omega))
   have a1:w64 (((64*n:Nat):Int)+64)=((64*(n+1):Nat):Int):=by rw[zaj (by omega) (by omega)]; omega
   rw[ref02_hSum_h0.eq_2,zan (by omega),a1,if_pos (by omega)]
   subst hs
   simp only[Int.toNat_natCast]
   rw[if_pos (by simp; omega)]
   refine congrArg (fun y=>ref02_hSum_h0 k zcS shaK ((64*(n+1):Nat):Int) (Vector.replicate 32 0) (zcg b) y) ?_
   refine zl8 fun j hj=>?_
   have:j < 64*(n+1) - 64*n:=by omega
   simp only[List.getD,List.getElem?_take,if_pos this,List.getElem?_drop]
 exact gen 0 _ (by omega) rfl
end
end Go.Proofs.YtnolgfdjcipmmaaDoor.M
namespace Go.Proofs.YtnolgfdjcipmmaaDoor.M
open Go
noncomputable section
def ref02_hTwice (h_0_begin:Vector UInt32 8) (h_0_k:Vector UInt32 64) (b:List UInt8):Option (Vector UInt8 32) :=
 if(
   (List.length b)≤(1099511627776:Nat))∧((h_0_begin=zcS)∧(h_0_k=shaK)) then
  if((List.length (Vector.toList (za4 b)))≤(1099511627776:Nat))∧((h_0_begin=zcS)∧(h_0_k=shaK)) then
   some (za4 (Vector.toList (za4 b)))
  else none
 else none
theorem zpo (hb:Vector UInt32 8) (hk:Vector UInt32 64) (b:List UInt8) (hp:b.length≤1099511627776∧hb=zcS∧hk=shaK):ref02_hTwice hb hk b=some (za4 (Vector.toList (za4 b))):=by
 rw[ref02_hTwice.eq_1,if_pos hp,if_pos ⟨by simp,hp.2⟩]
end
end Go.Proofs.YtnolgfdjcipmmaaDoor.M
namespace Go.Proofs.YtnolgfdjcipmmaaDoor.M
open Go
noncomputable section
def ref02_Twice (b:List UInt8):Option (Vector UInt8 32) :=
 if((List.length b)≤(1099511627776:Nat))∧((zcS=zcS)∧(shaK=shaK)) then
  some (za4 (Vector.toList (za4 b)))
 else none
theorem zqT (b:List UInt8) (hp:b.length≤1099511627776):ref02_Twice b=some (za4 (Vector.toList (za4 b))):=by
 rw[ref02_Twice,if_pos ⟨hp,rfl,rfl⟩]
end
end Go.Proofs.YtnolgfdjcipmmaaDoor.M
namespace Go.Proofs.YtnolgfdjcipmmaaDoor.M
open Go
noncomputable section
set_option maxRecDepth 100000
set_option maxHeartbeats 0
noncomputable def zk0:Tbl:=[]
noncomputable def zcj:CfgW:=mkC Tryd.prog theG zk0 16 0 false
def zdg:Nat→List Nat:=fun i=>bif Nat.beq i 0 then [1,3,4]else []
noncomputable abbrev zdX:Code:=Tryd.f70.body.getD .skip
noncomputable abbrev zeE:List ResultVar:=Tryd.f70.results.toList
def zc4:List Nat:=[]
def zef (r:List UInt8):CallOut:=⟨.o 60000,[(60000,.row (.s .u8 r) false)],true,[]⟩
def zgI (i:Int) (h_:Vector UInt8 32) (out:List UInt8):St:=⟨[(1,.p 60000 []),(3,.o 60001),(4,.pv (.sc .i i))],[(60000,.box (.pv (.arr .u8 32 h_))),(60001,.row (.s .u8 out) false)]⟩
theorem zxQ (i:Int) (h_:Vector UInt8 32) (out:List UInt8) (Q:CallOut→Prop):zas zcj zdg [true,true,false,true,false] zdX (zgI i h_ out) (fnK zcj zeE zc4 Q) =
  (zaf (decide (i < (32:Int))) ((((0:Int)≤i)∧(i < (32:Int)))∧(((((List.length (out++([(List.getD (Vector.toList h_) (Int.toNat i) (0:UInt8))]:List UInt8)))*(1:Nat))≤(70368744177664:Nat))∧((List.length (out++([(List.getD (Vector.toList h_) (Int.toNat i) (0:UInt8))]:List UInt8)))≤(70368744177664:Nat)))∧(zah zcj zdg [true,true,false,true,false] zdX (zgI (w64 (i+(1:Int))) h_ (out++([(List.getD (Vector.toList h_) (Int.toNat i) (0:UInt8))]:List UInt8))) (fnK zcj zeE zc4 Q)))) (Q (zef out))):=by kernel_rfl
theorem zof {r:List UInt8} {Q:CallOut→Prop} (hQ:Q (zef r)):∀ k:Nat,(∀ (i:Int) (h_:Vector UInt8 32) (out:List UInt8),ref02_List_h0 k i h_ out=some r→zah zcj zdg [true,true,false,true,false] zdX (zgI i h_ out) (fnK zcj zeE zc4 Q))
 | 0=>fun _ _ _ h=>zb9 h
 | k+1=>fun i h_ out h=>zal (Eq.mpr (zxQ i h_ out Q) (have h:=(ref02_List_h0.eq_2 i h_ out k).symm.trans h; zab h (fun h=>zad h fun hc0 h=>zad h fun hc1 h=>(zof hQ k) _ _ _ h) (fun h=>zag (Q:=Q) (e:=zef) h hQ)))
theorem zzB (h_0:Vector UInt8 32) (Q:CallOut→Prop):zac zcj zdg zeE zc4 zdX [.pv (.arr .u8 32 h_0)] [] Q =
  (zah zcj zdg [true,true,false,true,false] zdX (zgI (0:Int) h_0 ([]:List UInt8)) (fnK zcj zeE zc4 Q)):=by kernel_rfl
theorem zzG {k:Nat} (h_0:Vector UInt8 32) {r} {Q:CallOut→Prop} (h:ref02_List k h_0=some r) (hQ:Q (zef r)):zac zcj zdg zeE zc4 zdX [.pv (.arr .u8 32 h_0)] [] Q :=
 Eq.mpr (zzB h_0 Q) (have h:=(ref02_List.eq_1 k h_0).symm.trans h; (zof hQ _) _ _ _ h)
def zfX:Ans
 | [.pv (.arr .u8 32 h_0)],[]=>some (none,zef (Vector.toList h_0))
 | _,_=>none
theorem zur:TblOK Tryd.prog theG zk0:=.nil
theorem zn2:FnOK Tryd.prog theG 70 (unW zfX):=by
 refine FnOK.ofC (T:=zk0) (nt:=16) (np:=0) (mv:=[]) (nf:=false) (hs:=zc4) (fn:=Tryd.f70) (body:=zdX) zur (by kernel_rfl) (by kernel_rfl) (by kernel_rfl) (by kernel_rfl) (c:=zfX) (lv:=zdg) ?_
 intro xs mem p out h hp
 unfold zfX at h
 split at h
 ·cases h
  obtain ⟨k,hk⟩:=ztm _
  exact zzG _ hk rfl
 ·cases h
end
end Go.Proofs.YtnolgfdjcipmmaaDoor.M
namespace Go.Proofs.YtnolgfdjcipmmaaDoor.M
open Go
noncomputable section
set_option maxRecDepth 100000
set_option maxHeartbeats 0
noncomputable def zmJ:Tbl:=[]
noncomputable def zts:CfgW:=mkC Tryd.prog theG zmJ 5 0 false
def zkW:Nat→List Nat:=fun i=>[]
noncomputable abbrev zm3:Code:=Tryd.f68.body.getD .skip
noncomputable abbrev zs4:List ResultVar:=Tryd.f68.results.toList
def zkn:List Nat:=[]
def ze2 (r:Vector UInt32 8 × Vector UInt32 64):CallOut:=⟨.p 60000 [],[(60000,.box (.pv (.st [.arr .u32 8 r.1,.arr .u32 64 r.2])))],true,[]⟩
theorem zCh  (Q:CallOut→Prop):zac zts zkW zs4 zkn zm3 [] [] Q =
  (Q (ze2 ((Vector.setIfInBounds (Vector.setIfInBounds (Vector.setIfInBounds (Vector.setIfInBounds (Vector.setIfInBounds (Vector.setIfInBounds (Vector.setIfInBounds (Vector.setIfInBounds (Vector.replicate 8 (0:UInt32)) (0:Nat) (1779033703:UInt32)) (1:Nat) (3144134277:UInt32)) (2:Nat) (1013904242:UInt32)) (3:Nat) (2773480762:UInt32)) (4:Nat) (1359893119:UInt32)) (5:Nat) (2600822924:UInt32)) (6:Nat) (528734635:UInt32)) (7:Nat) (1541459225:UInt32)),(Vector.setIfInBounds (Vector.setIfInBounds (Vector.setIfInBounds (Vector.setIfInBounds (Vector.setIfInBounds (Vector.setIfInBounds (Vector.setIfInBounds (Vector.setIfInBounds (Vector.setIfInBounds (Vector.setIfInBounds (Vector.setIfInBounds (Vector.setIfInBounds (Vector.setIfInBounds (Vector.setIfInBounds (Vector.setIfInBounds (Vector.setIfInBounds (Vector.setIfInBounds (Vector.setIfInBounds (Vector.setIfInBounds (Vector.setIfInBounds (Vector.setIfInBounds (Vector.setIfInBounds (Vector.setIfInBounds (Vector.setIfInBounds (Vector.setIfInBounds (Vector.setIfInBounds (Vector.setIfInBounds (Vector.setIfInBounds (Vector.setIfInBounds (Vector.setIfInBounds (Vector.setIfInBounds (Vector.setIfInBounds (Vector.setIfInBounds (Vector.setIfInBounds (Vector.setIfInBounds (Vector.setIfInBounds (Vector.setIfInBounds (Vector.setIfInBounds (Vector.setIfInBounds (Vector.setIfInBounds (Vector.setIfInBounds (Vector.setIfInBounds (Vector.setIfInBounds (Vector.setIfInBounds (Vector.setIfInBounds (Vector.setIfInBounds (Vector.setIfInBounds (Vector.setIfInBounds (Vector.setIfInBounds (Vector.setIfInBounds (Vector.setIfInBounds (Vector.setIfInBounds (Vector.setIfInBounds (Vector.setIfInBounds (Vector.setIfInBounds (Vector.setIfInBounds (Vector.setIfInBounds (Vector.setIfInBounds (Vector.setIfInBounds (Vector.setIfInBounds (Vector.setIfInBounds (Vector.setIfInBounds (Vector.setIfInBounds (Vector.setIfInBounds (Vector.replicate 64 (0:UInt32)) (0:Nat) (1116352408:UInt32)) (1:Nat) (1899447441:UInt32)) (2:Nat) (3049323471:UInt32)) (3:Nat) (3921009573:UInt32)) (4:Nat) (961987163:UInt32)) (5:Nat) (1508970993:UInt32)) (6:Nat) (2453635748:UInt32)) (7:Nat) (2870763221:UInt32)) (8:Nat) (3624381080:UInt32)) (9:Nat) (310598401:UInt32)) (10:Nat) (607225278:UInt32)) (11:Nat) (1426881987:UInt32)) (12:Nat) (1925078388:UInt32)) (13:Nat) (2162078206:UInt32)) (14:Nat) (2614888103:UInt32)) (15:Nat) (3248222580:UInt32)) (16:Nat) (3835390401:UInt32)) (17:Nat) (4022224774:UInt32)) (18:Nat) (264347078:UInt32)) (19:Nat) (604807628:UInt32)) (20:Nat) (770255983:UInt32)) (21:Nat) (1249150122:UInt32)) (22:Nat) (1555081692:UInt32)) (23:Nat) (1996064986:UInt32)) (24:Nat) (2554220882:UInt32)) (25:Nat) (2821834349:UInt32)) (26:Nat) (2952996808:UInt32)) (27:Nat) (3210313671:UInt32)) (28:Nat) (3336571891:UInt32)) (29:Nat) (3584528711:UInt32)) (30:Nat) (113926993:UInt32)) (31:Nat) (338241895:UInt32)) (32:Nat) (666307205:UInt32)) (33:Nat) (773529912:UInt32)) (34:Nat) (1294757372:UInt32)) (35:Nat) (1396182291:UInt32)) (36:Nat) (1695183700:UInt32)) (37:Nat) (1986661051:UInt32)) (38:Nat) (2177026350:UInt32)) (39:Nat) (2456956037:UInt32)) (40:Nat) (2730485921:UInt32)) (41:Nat) (2820302411:UInt32)) (42:Nat) (3259730800:UInt32)) (43:Nat) (3345764771:UInt32)) (44:Nat) (3516065817:UInt32)) (45:Nat) (3600352804:UInt32)) (46:Nat) (4094571909:UInt32)) (47:Nat) (275423344:UInt32)) (48:Nat) (430227734:UInt32)) (49:Nat) (506948616:UInt32)) (50:Nat) (659060556:UInt32)) (51:Nat) (883997877:UInt32)) (52:Nat) (958139571:UInt32)) (53:Nat) (1322822218:UInt32)) (54:Nat) (1537002063:UInt32)) (55:Nat) (1747873779:UInt32)) (56:Nat) (1955562222:UInt32)) (57:Nat) (2024104815:UInt32)) (58:Nat) (2227730452:UInt32)) (59:Nat) (2361852424:UInt32)) (60:Nat) (2428436474:UInt32)) (61:Nat) (2756734187:UInt32)) (62:Nat) (3204031479:UInt32)) (63:Nat) (3329325298:UInt32))))):=by kernel_rfl
theorem zCx  {Q:CallOut→Prop} (h:Q (ze2 (ref02_New ))):zac zts zkW zs4 zkn zm3 [] [] Q :=
 Eq.mpr (zCh  Q) (have h:=Eq.mp (congrArg (fun r=>Q (ze2 r)) (ref02_New.eq_1 )) h; h)
def zjo:Ans
 | [],[]=>some (none,ze2 ((zcS,shaK)))
 | _,_=>none
theorem zxo:TblOK Tryd.prog theG zmJ:=.nil
theorem zzD:FnOK Tryd.prog theG 68 (unW zjo):=by
 refine FnOK.ofC (T:=zmJ) (nt:=5) (np:=0) (mv:=[]) (nf:=false) (hs:=zkn) (fn:=Tryd.f68) (body:=zm3) zxo (by kernel_rfl) (by kernel_rfl) (by kernel_rfl) (by kernel_rfl) (c:=zjo) (lv:=zkW) ?_
 intro xs mem p out h hp
 unfold zjo at h
 split at h
 ·cases h
  exact zCx  (congrArg ze2 (ztN))
 ·cases h
end
end Go.Proofs.YtnolgfdjcipmmaaDoor.M
namespace Go.Proofs.YtnolgfdjcipmmaaDoor.M
open Go
noncomputable section
set_option maxRecDepth 100000
set_option maxHeartbeats 0
noncomputable def zh8:Tbl:=[]
noncomputable def zaI:CfgW:=mkC Tryd.prog theG zh8 38 0 false
def zbd:Nat→List Nat:=fun i=>bif Nat.beq i 2 then [3,4,5]else bif Nat.beq i 0 then [0,3]else []
noncomputable abbrev zbq:Code:=Tryd.f89.body.getD .skip
noncomputable abbrev zbz:List ResultVar:=Tryd.f89.results.toList
def zbe:List Nat:=[]
def zcx (r:List UInt8):CallOut:=⟨.o 60000,[(60000,.row (.s .u8 r) false)],true,[]⟩
def zeL (b:List UInt8) (out:List UInt8):St:=⟨[(0,.pv (.sl .u8 b)),(3,.o 60000)],[(60000,.row (.s .u8 out) false)]⟩
def zeW (n:UInt64) (i:Int) (out:List UInt8):St:=⟨[(3,.o 60000),(4,.pv (.sc .u64 n)),(5,.pv (.sc .i i))],[(60000,.row (.s .u8 out) false)]⟩
theorem zr4 (b:List UInt8) (out:List UInt8) (Q:CallOut→Prop):zas zaI zbd [true,true,true,true,false,false] zbq (zeL b out) (fnK zaI zbz zbe Q) =
  (((64:Int)≠(0:Int))∧(zaf (!(decide ((Int.tmod (((List.length out):Nat):Int) (64:Int))=(56:Int)))) (((((List.length (out++([(0:UInt8)]:List UInt8)))*(1:Nat))≤(70368744177664:Nat))∧((List.length (out++([(0:UInt8)]:List UInt8)))≤(70368744177664:Nat)))∧(zah zaI zbd [true,true,true,true,false,false] zbq (zeL b (out++([(0:UInt8)]:List UInt8))) (fnK zaI zbz zbe Q))) (zah zaI zbd [true,true,true,true,true,true,false,true,false] zbq (zeW ((8:UInt64)*(UInt64.ofInt (((List.length b):Nat):Int))) (0:Int) out) (fnK zaI zbz zbe Q)))):=by kernel_rfl
theorem zsl (n:UInt64) (i:Int) (out:List UInt8) (Q:CallOut→Prop):zas zaI zbd [true,true,true,true,true,true,false,true,false] zbq (zeW n i out) (fnK zaI zbz zbe Q) =
  (zaf (decide (i < (8:Int))) (((((List.length (out++([(UInt64.toUInt8 (zaa n (UInt64.toNat (UInt64.ofInt (w64 ((56:Int) - (w64 ((8:Int)*i))))))))]:List UInt8)))*(1:Nat))≤(70368744177664:Nat))∧((List.length (out++([(UInt64.toUInt8 (zaa n (UInt64.toNat (UInt64.ofInt (w64 ((56:Int) - (w64 ((8:Int)*i))))))))]:List UInt8)))≤(70368744177664:Nat)))∧(zah zaI zbd [true,true,true,true,true,true,false,true,false] zbq (zeW n (w64 (i+(1:Int))) (out++([(UInt64.toUInt8 (zaa n (UInt64.toNat (UInt64.ofInt (w64 ((56:Int) - (w64 ((8:Int)*i))))))))]:List UInt8))) (fnK zaI zbz zbe Q))) (Q (zcx out))):=by kernel_rfl
theorem zle {r:List UInt8} {Q:CallOut→Prop} (hQ:Q (zcx r)):∀ k:Nat,(∀ (n:UInt64) (i:Int) (out:List UInt8),ref02_Padded_h2 k n i out=some r→zah zaI zbd [true,true,true,true,true,true,false,true,false] zbq (zeW n i out) (fnK zaI zbz zbe Q))
 | 0=>fun _ _ _ h=>zb9 h
 | k+1=>fun n i out h=>zal (Eq.mpr (zsl n i out Q) (have h:=(ref02_Padded_h2.eq_2 n i out k).symm.trans h; zab h (fun h=>zad h fun hc0 h=>(zle hQ k) _ _ _ h) (fun h=>zag (Q:=Q) (e:=zcx) h hQ)))
theorem zkx {r:List UInt8} {Q:CallOut→Prop} (hQ:Q (zcx r)):∀ k:Nat,(∀ (b:List UInt8) (out:List UInt8),ref02_Padded_h0 k b out=some r→zah zaI zbd [true,true,true,true,false,false] zbq (zeL b out) (fnK zaI zbz zbe Q))
 | 0=>fun _ _ h=>zb9 h
 | k+1=>fun b out h=>zal (Eq.mpr (zr4 b out Q) (have h:=(ref02_Padded_h0.eq_2 b out k).symm.trans h; ⟨by decide +kernel,zab h (fun h=>zad h fun hc0 h=>(zkx hQ k) _ _ h) (fun h=>(zle hQ _) _ _ _ h)⟩))
theorem ztQ (b:List UInt8) (Q:CallOut→Prop):zac zaI zbd zbz zbe zbq [.pv (.sl .u8 b)] [] Q =
  (((((List.length (([]:List UInt8)++b))*(1:Nat))≤(70368744177664:Nat))∧((List.length (([]:List UInt8)++b))≤(70368744177664:Nat)))∧(((((List.length ((([]:List UInt8)++b)++([(128:UInt8)]:List UInt8)))*(1:Nat))≤(70368744177664:Nat))∧((List.length ((([]:List UInt8)++b)++([(128:UInt8)]:List UInt8)))≤(70368744177664:Nat)))∧(zah zaI zbd [true,true,true,true,false,false] zbq (zeL b ((([]:List UInt8)++b)++([(128:UInt8)]:List UInt8))) (fnK zaI zbz zbe Q)))):=by kernel_rfl
theorem zuy {k:Nat} (b:List UInt8) {r} {Q:CallOut→Prop} (h:ref02_Padded k b=some r) (hQ:Q (zcx r)):zac zaI zbd zbz zbe zbq [.pv (.sl .u8 b)] [] Q :=
 Eq.mpr (ztQ b Q) (have h:=(ref02_Padded.eq_1 k b).symm.trans h; zad h fun hc0 h=>zad h fun hc1 h=>(zkx hQ _) _ _ h)
def zfF:Ans
 | [.pv (.sl .u8 b)],[]=>some (some (b.length≤1099511627776),zcx (zcg b))
 | _,_=>none
theorem zqX:TblOK Tryd.prog theG zh8:=.nil
theorem zrw:FnOK Tryd.prog theG 89 (unW zfF):=by
 refine FnOK.ofC (T:=zh8) (nt:=38) (np:=0) (mv:=[]) (nf:=false) (hs:=zbe) (fn:=Tryd.f89) (body:=zbq) zqX (by kernel_rfl) (by kernel_rfl) (by kernel_rfl) (by kernel_rfl) (c:=zfF) (lv:=zbd) ?_
 intro xs mem p out h hp
 unfold zfF at h
 split at h
 ·cases h
  obtain ⟨k,hk⟩:=zoX _ hp
  exact zuy _ hk rfl
 ·cases h
end
end Go.Proofs.YtnolgfdjcipmmaaDoor.M
namespace Go.Proofs.YtnolgfdjcipmmaaDoor.M
open Go
noncomputable section
set_option maxRecDepth 100000
set_option maxHeartbeats 0
noncomputable def zkE:Tbl:=[]
noncomputable def zp8:CfgW:=mkC Tryd.prog theG zkE 13 0 false
def zi3:Nat→List Nat:=fun i=>[]
noncomputable abbrev zj4:Code:=Tryd.f93.body.getD .skip
noncomputable abbrev zp7:List ResultVar:=Tryd.f93.results.toList
def zi5:List Nat:=[]
def zfU (r:UInt32):CallOut:=⟨.pv (.sc .u32 r),[],true,[]⟩
theorem zzQ (x_0:UInt32) (n:UInt64) (Q:CallOut→Prop):zac zp8 zi3 zp7 zi5 zj4 [.pv (.sc .u32 x_0),.pv (.sc .u64 n)] [] Q =
  (Q (zfU ((zaP x_0 (UInt64.toNat n)) ||| (zcb x_0 (UInt64.toNat ((32:UInt64) - n)))))):=by kernel_rfl
theorem zzA (x_0:UInt32) (n:UInt64) {Q:CallOut→Prop} (h:Q (zfU (ref02_turn x_0 n))):zac zp8 zi3 zp7 zi5 zj4 [.pv (.sc .u32 x_0),.pv (.sc .u64 n)] [] Q :=
 Eq.mpr (zzQ x_0 n Q) (have h:=Eq.mp (congrArg (fun r=>Q (zfU r)) (ref02_turn.eq_1 x_0 n)) h; h)
def zhP:Ans
 | [.pv (.sc .u32 x_0),.pv (.sc .u64 n)],[]=>some (none,zfU (ref02_turn x_0 n))
 | _,_=>none
theorem zuR:TblOK Tryd.prog theG zkE:=.nil
theorem zwo:FnOK Tryd.prog theG 93 (unW zhP):=by
 refine FnOK.ofC (T:=zkE) (nt:=13) (np:=0) (mv:=[]) (nf:=false) (hs:=zi5) (fn:=Tryd.f93) (body:=zj4) zuR (by kernel_rfl) (by kernel_rfl) (by kernel_rfl) (by kernel_rfl) (c:=zhP) (lv:=zi3) ?_
 intro xs mem p out h hp
 unfold zhP at h
 split at h
 ·cases h
  exact zzA _ _ rfl
 ·cases h
end
end Go.Proofs.YtnolgfdjcipmmaaDoor.M
namespace Go.Proofs.YtnolgfdjcipmmaaDoor.M
open Go
noncomputable section
set_option maxRecDepth 100000
set_option maxHeartbeats 0
noncomputable def zjK:Tbl:=[(93,[],zhP)]
noncomputable def zae:CfgW:=mkC Tryd.prog theG zjK 181 0 false
def zap:Nat→List Nat:=fun i=>bif Nat.beq i 10 then [3,6,13,20]else bif Nat.beq i 8 then [3,5,6,7,13,14,17,18,19]else bif Nat.beq i 6 then [3,5,6,7,13,14]else bif Nat.beq i 4 then [3,5,6,7,10]else bif Nat.beq i 2 then [1,3,5,6,7,8,9]else bif Nat.beq i 0 then [1,3,5,6,7,8]else []
noncomputable abbrev zav:Code:=Tryd.f90.body.getD .skip
noncomputable abbrev zaw:List ResultVar:=Tryd.f90.results.toList
def zao:List Nat:=[]
def zbZ (r:Vector UInt32 8):CallOut:=⟨.pv (.arr .u32 8 r),[],true,[]⟩
def zfS (b:List UInt8) (i:Int) (s:Vector UInt32 8) (k_:Vector UInt32 64) (t6:Vector UInt32 8) (w:Vector UInt32 64):St:=⟨[(1,.pv (.sl .u8 b)),(3,.p 60000 []),(5,.p 60001 []),(6,.p 60002 []),(7,.p 60003 []),(8,.pv (.sc .i i))],[(60000,.box (.pv (.arr .u32 8 s))),(60001,.box (.pv (.arr .u32 64 k_))),(60002,.box (.pv (.arr .u32 8 t6))),(60003,.box (.pv (.arr .u32 64 w)))]⟩
def zfE (b:List UInt8) (i:Int) (j:Int) (s:Vector UInt32 8) (k_:Vector UInt32 64) (t6:Vector UInt32 8) (w:Vector UInt32 64):St:=⟨[(1,.pv (.sl .u8 b)),(3,.p 60000 []),(5,.p 60001 []),(6,.p 60002 []),(7,.p 60003 []),(8,.pv (.sc .i i)),(9,.pv (.sc .i j))],[(60000,.box (.pv (.arr .u32 8 s))),(60001,.box (.pv (.arr .u32 64 k_))),(60002,.box (.pv (.arr .u32 8 t6))),(60003,.box (.pv (.arr .u32 64 w)))]⟩
def zfJ (i:Int) (s:Vector UInt32 8) (k_:Vector UInt32 64) (t6:Vector UInt32 8) (w:Vector UInt32 64):St:=⟨[(3,.p 60000 []),(5,.p 60001 []),(6,.p 60002 []),(7,.p 60003 []),(10,.pv (.sc .i i))],[(60000,.box (.pv (.arr .u32 8 s))),(60001,.box (.pv (.arr .u32 64 k_))),(60002,.box (.pv (.arr .u32 8 t6))),(60003,.box (.pv (.arr .u32 64 w)))]⟩
def zfH (i:Int) (s:Vector UInt32 8) (k_:Vector UInt32 64) (t6:Vector UInt32 8) (w:Vector UInt32 64) (v:Vector UInt32 8):St:=⟨[(3,.p 60000 []),(5,.p 60001 []),(6,.p 60002 []),(7,.p 60003 []),(13,.p 60004 []),(14,.pv (.sc .i i))],[(60000,.box (.pv (.arr .u32 8 s))),(60001,.box (.pv (.arr .u32 64 k_))),(60002,.box (.pv (.arr .u32 8 t6))),(60003,.box (.pv (.arr .u32 64 w))),(60004,.box (.pv (.arr .u32 8 v)))]⟩
def zfR (i:Int) (t:UInt32) (u:UInt32) (j:Int) (s:Vector UInt32 8) (k_:Vector UInt32 64) (t6:Vector UInt32 8) (w:Vector UInt32 64) (v:Vector UInt32 8):St:=⟨[(3,.p 60000 []),(5,.p 60001 []),(6,.p 60002 []),(7,.p 60003 []),(13,.p 60004 []),(14,.pv (.sc .i i)),(17,.pv (.sc .u32 t)),(18,.pv (.sc .u32 u)),(19,.pv (.sc .i j))],[(60000,.box (.pv (.arr .u32 8 s))),(60001,.box (.pv (.arr .u32 64 k_))),(60002,.box (.pv (.arr .u32 8 t6))),(60003,.box (.pv (.arr .u32 64 w))),(60004,.box (.pv (.arr .u32 8 v)))]⟩
def ze3 (i:Int) (s:Vector UInt32 8) (t6:Vector UInt32 8) (v:Vector UInt32 8):St:=⟨[(3,.p 60000 []),(6,.p 60001 []),(13,.p 60002 []),(20,.pv (.sc .i i))],[(60000,.box (.pv (.arr .u32 8 s))),(60001,.box (.pv (.arr .u32 8 t6))),(60002,.box (.pv (.arr .u32 8 v)))]⟩
theorem ztM (b:List UInt8) (i:Int) (s:Vector UInt32 8) (k_:Vector UInt32 64) (t6:Vector UInt32 8) (w:Vector UInt32 64) (Q:CallOut→Prop):zas zae zap [true,true,false,true,false] zav (zfS b i s k_ t6 w) (fnK zae zaw zao Q) =
  (zaf (decide (i < (16:Int))) (zah zae zap [true,true,false,true,false,false,true,false,false,true,false] zav (zfE b i (0:Int) s k_ t6 w) (fnK zae zaw zao Q)) (zah zae zap [true,true,true,false,true,false] zav (zfJ (16:Int) s k_ t6 w) (fnK zae zaw zao Q))):=by kernel_rfl
theorem zuh (b:List UInt8) (i:Int) (j:Int) (s:Vector UInt32 8) (k_:Vector UInt32 64) (t6:Vector UInt32 8) (w:Vector UInt32 64) (Q:CallOut→Prop):zas zae zap [true,true,false,true,false,false,true,false,false,true,false] zav (zfE b i j s k_ t6 w) (fnK zae zaw zao Q) =
  (zaf (decide (j < (4:Int))) ((((0:Int)≤i)∧(i < (64:Int)))∧((((0:Int)≤(w64 ((w64 ((4:Int)*i))+j)))∧((w64 ((w64 ((4:Int)*i))+j)) < (((List.length b):Nat):Int)))∧((((0:Int)≤i)∧(i < (64:Int)))∧(zah zae zap [true,true,false,true,false,false,true,false,false,true,false] zav (zfE b i (w64 (j+(1:Int))) s k_ t6 (Vector.setIfInBounds w (Int.toNat i) (((256:UInt32)*(List.getD (Vector.toList w) (Int.toNat i) (0:UInt32)))+(UInt8.toUInt32 (List.getD b (Int.toNat (w64 ((w64 ((4:Int)*i))+j))) (0:UInt8)))))) (fnK zae zaw zao Q))))) (zah zae zap [true,true,false,true,false] zav (zfS b (w64 (i+(1:Int))) s k_ t6 w) (fnK zae zaw zao Q))):=by kernel_rfl
theorem zuu (i:Int) (s:Vector UInt32 8) (k_:Vector UInt32 64) (t6:Vector UInt32 8) (w:Vector UInt32 64) (Q:CallOut→Prop):zas zae zap [true,true,true,false,true,false] zav (zfJ i s k_ t6 w) (fnK zae zaw zao Q) =
 (let s0:=(List.getD (Vector.toList w) (Int.toNat (w64 (i - (15:Int)))) (0:UInt32));let s1:=(List.getD (Vector.toList w) (Int.toNat (w64 (i - (2:Int)))) (0:UInt32));(zaf (decide (i < (64:Int))) ((((0:Int)≤(w64 (i - (15:Int))))∧((w64 (i - (15:Int))) < (64:Int)))∧((((0:Int)≤(w64 (i - (2:Int))))∧((w64 (i - (2:Int))) < (64:Int)))∧((((0:Int)≤(w64 (i - (16:Int))))∧((w64 (i - (16:Int))) < (64:Int)))∧((((0:Int)≤(w64 (i - (7:Int))))∧((w64 (i - (7:Int))) < (64:Int)))∧((((0:Int)≤i)∧(i < (64:Int)))∧(zah zae zap [true,true,true,false,true,false] zav (zfJ (w64 (i+(1:Int))) s k_ t6 (Vector.setIfInBounds w (Int.toNat i) ((((List.getD (Vector.toList w) (Int.toNat (w64 (i - (16:Int)))) (0:UInt32))+(((ref02_turn  s0  (7:UInt64)) ^^^ (ref02_turn  s0  (18:UInt64))) ^^^ (zaP  s0  (3:Nat))))+(List.getD (Vector.toList w) (Int.toNat (w64 (i - (7:Int)))) (0:UInt32)))+(((ref02_turn  s1  (17:UInt64)) ^^^ (ref02_turn  s1  (19:UInt64))) ^^^ (zaP  s1  (10:Nat)))))) (fnK zae zaw zao Q))))))) (zah zae zap [true,true,true,true,true,false,true,false] zav (zfH (0:Int) s k_ t6 w s) (fnK zae zaw zao Q)))):=by kernel_rfl
theorem zt0 (i:Int) (s:Vector UInt32 8) (k_:Vector UInt32 64) (t6:Vector UInt32 8) (w:Vector UInt32 64) (v:Vector UInt32 8) (Q:CallOut→Prop):zas zae zap [true,true,true,true,true,false,true,false] zav (zfH i s k_ t6 w v) (fnK zae zaw zao Q) =
  (zaf (decide (i < (64:Int))) ((((0:Int)≤(0:Int))∧((0:Int) < (8:Int)))∧((((0:Int)≤(4:Int))∧((4:Int) < (8:Int)))∧((((0:Int)≤(7:Int))∧((7:Int) < (8:Int)))∧((((0:Int)≤(5:Int))∧((5:Int) < (8:Int)))∧((((0:Int)≤(6:Int))∧((6:Int) < (8:Int)))∧((((0:Int)≤i)∧(i < (64:Int)))∧((((0:Int)≤i)∧(i < (64:Int)))∧((((0:Int)≤(1:Int))∧((1:Int) < (8:Int)))∧((((0:Int)≤(2:Int))∧((2:Int) < (8:Int)))∧((((0:Int)≤(1:Int))∧((1:Int) < (8:Int)))∧((((0:Int)≤(2:Int))∧((2:Int) < (8:Int)))∧(zah zae zap [true,true,true,true,true,false,true,false,false,true,false,false,true,true,true,false,true,false] zav (zfR i (((((List.getD (Vector.toList v) (7:Nat) (0:UInt32))+(((ref02_turn (List.getD (Vector.toList v) (4:Nat) (0:UInt32)) (6:UInt64)) ^^^ (ref02_turn (List.getD (Vector.toList v) (4:Nat) (0:UInt32)) (11:UInt64))) ^^^ (ref02_turn (List.getD (Vector.toList v) (4:Nat) (0:UInt32)) (25:UInt64))))+(((List.getD (Vector.toList v) (4:Nat) (0:UInt32)) &&& (List.getD (Vector.toList v) (5:Nat) (0:UInt32))) ^^^ ((~~~(List.getD (Vector.toList v) (4:Nat) (0:UInt32))) &&& (List.getD (Vector.toList v) (6:Nat) (0:UInt32)))))+(List.getD (Vector.toList k_) (Int.toNat i) (0:UInt32)))+(List.getD (Vector.toList w) (Int.toNat i) (0:UInt32))) ((((ref02_turn (List.getD (Vector.toList v) (0:Nat) (0:UInt32)) (2:UInt64)) ^^^ (ref02_turn (List.getD (Vector.toList v) (0:Nat) (0:UInt32)) (13:UInt64))) ^^^ (ref02_turn (List.getD (Vector.toList v) (0:Nat) (0:UInt32)) (22:UInt64)))+((((List.getD (Vector.toList v) (0:Nat) (0:UInt32)) &&& (List.getD (Vector.toList v) (1:Nat) (0:UInt32))) ^^^ ((List.getD (Vector.toList v) (0:Nat) (0:UInt32)) &&& (List.getD (Vector.toList v) (2:Nat) (0:UInt32)))) ^^^ ((List.getD (Vector.toList v) (1:Nat) (0:UInt32)) &&& (List.getD (Vector.toList v) (2:Nat) (0:UInt32))))) (7:Int) s k_ t6 w v) (fnK zae zaw zao Q))))))))))))) (zah zae zap [true,true,true,true,true,true,false,true,false] zav (ze3 (0:Int) s t6 v) (fnK zae zaw zao Q))):=by kernel_rfl
theorem zt5 (i:Int) (t:UInt32) (u:UInt32) (j:Int) (s:Vector UInt32 8) (k_:Vector UInt32 64) (t6:Vector UInt32 8) (w:Vector UInt32 64) (v:Vector UInt32 8) (Q:CallOut→Prop):zas zae zap [true,true,true,true,true,false,true,false,false,true,false,false,true,true,true,false,true,false] zav (zfR i t u j s k_ t6 w v) (fnK zae zaw zao Q) =
  (zaf (decide ((0:Int) < j)) ((((0:Int)≤(w64 (j - (1:Int))))∧((w64 (j - (1:Int))) < (8:Int)))∧((((0:Int)≤j)∧(j < (8:Int)))∧(zah zae zap [true,true,true,true,true,false,true,false,false,true,false,false,true,true,true,false,true,false] zav (zfR i t u (w64 (j - (1:Int))) s k_ t6 w (Vector.setIfInBounds v (Int.toNat j) (List.getD (Vector.toList v) (Int.toNat (w64 (j - (1:Int)))) (0:UInt32)))) (fnK zae zaw zao Q)))) ((((0:Int)≤(4:Int))∧((4:Int) < (8:Int)))∧((((0:Int)≤(4:Int))∧((4:Int) < (8:Int)))∧((((0:Int)≤(0:Int))∧((0:Int) < (8:Int)))∧(zah zae zap [true,true,true,true,true,false,true,false] zav (zfH (w64 (i+(1:Int))) s k_ t6 w (Vector.setIfInBounds (Vector.setIfInBounds v (4:Nat) ((List.getD (Vector.toList v) (4:Nat) (0:UInt32))+t)) (0:Nat) (t+u))) (fnK zae zaw zao Q)))))):=by kernel_rfl
theorem zs0 (i:Int) (s:Vector UInt32 8) (t6:Vector UInt32 8) (v:Vector UInt32 8) (Q:CallOut→Prop):zas zae zap [true,true,true,true,true,true,false,true,false] zav (ze3 i s t6 v) (fnK zae zaw zao Q) =
  (zaf (decide (i < (8:Int))) ((((0:Int)≤i)∧(i < (8:Int)))∧((((0:Int)≤i)∧(i < (8:Int)))∧((((0:Int)≤i)∧(i < (8:Int)))∧(zah zae zap [true,true,true,true,true,true,false,true,false] zav (ze3 (w64 (i+(1:Int))) s t6 (Vector.setIfInBounds v (Int.toNat i) ((List.getD (Vector.toList v) (Int.toNat i) (0:UInt32))+(List.getD (Vector.toList s) (Int.toNat i) (0:UInt32))))) (fnK zae zaw zao Q))))) (Q (zbZ v))):=by kernel_rfl
theorem zkb {r:Vector UInt32 8} {Q:CallOut→Prop} (hQ:Q (zbZ r)):∀ k:Nat,(∀ (i:Int) (s:Vector UInt32 8) (t6:Vector UInt32 8) (v:Vector UInt32 8),ref02_round_h10 k i s t6 v=some r→zah zae zap [true,true,true,true,true,true,false,true,false] zav (ze3 i s t6 v) (fnK zae zaw zao Q))
 | 0=>fun _ _ _ _ h=>zb9 h
 | k+1=>fun i s t6 v h=>zal (Eq.mpr (zs0 i s t6 v Q) (have h:=(ref02_round_h10.eq_2 i s t6 v k).symm.trans h; zab h (fun h=>zad h fun hc0 h=>⟨hc0,⟨hc0,(zkb hQ k) _ _ _ _ h⟩⟩) (fun h=>zag (Q:=Q) (e:=zbZ) h hQ)))
theorem zfN {r:Vector UInt32 8} {Q:CallOut→Prop} (hQ:Q (zbZ r)):∀ k:Nat,(∀ (i:Int) (s:Vector UInt32 8) (k_:Vector UInt32 64) (t6:Vector UInt32 8) (w:Vector UInt32 64) (v:Vector UInt32 8),ref02_round_h6 k i s k_ t6 w v=some r→zah zae zap [true,true,true,true,true,false,true,false] zav (zfH i s k_ t6 w v) (fnK zae zaw zao Q))∧(∀ (i:Int) (t:UInt32) (u:UInt32) (j:Int) (s:Vector UInt32 8) (k_:Vector UInt32 64) (t6:Vector UInt32 8) (w:Vector UInt32 64) (v:Vector UInt32 8),ref02_round_h8 k i t u j s k_ t6 w v=some r→zah zae zap [true,true,true,true,true,false,true,false,false,true,false,false,true,true,true,false,true,false] zav (zfR i t u j s k_ t6 w v) (fnK zae zaw zao Q))
 | 0=>⟨fun _ _ _ _ _ _ h=>zb9 h,fun _ _ _ _ _ _ _ _ _ h=>zb9 h⟩
 | k+1=>⟨fun i s k_ t6 w v h=>zal (Eq.mpr (zt0 i s k_ t6 w v Q) (have h:=(ref02_round_h6.eq_2 i s k_ t6 w v k).symm.trans h; zab h (fun h=>⟨by decide +kernel,⟨by decide +kernel,⟨by decide +kernel,⟨by decide +kernel,⟨by decide +kernel,zad h fun hc0 h=>⟨hc0,⟨by decide +kernel,⟨by decide +kernel,⟨by decide +kernel,⟨by decide +kernel,(zfN hQ k).2 _ _ _ _ _ _ _ _ _ h⟩⟩⟩⟩⟩⟩⟩⟩⟩⟩) (fun h=>(zkb hQ _) _ _ _ _ h))),
  fun i t u j s k_ t6 w v h=>zal (Eq.mpr (zt5 i t u j s k_ t6 w v Q) (have h:=(ref02_round_h8.eq_2 i t u j s k_ t6 w v k).symm.trans h; zab h (fun h=>zad h fun hc0 h=>zad h fun hc1 h=>(zfN hQ k).2 _ _ _ _ _ _ _ _ _ h) (fun h=>⟨by decide +kernel,⟨by decide +kernel,⟨by decide +kernel,(zfN hQ k).1 _ _ _ _ _ _ h⟩⟩⟩)))⟩
theorem zl7 {r:Vector UInt32 8} {Q:CallOut→Prop} (hQ:Q (zbZ r)):∀ k:Nat,(∀ (i:Int) (s:Vector UInt32 8) (k_:Vector UInt32 64) (t6:Vector UInt32 8) (w:Vector UInt32 64),ref02_round_h4 k i s k_ t6 w=some r→zah zae zap [true,true,true,false,true,false] zav (zfJ i s k_ t6 w) (fnK zae zaw zao Q))
 | 0=>fun _ _ _ _ _ h=>zb9 h
 | k+1=>fun i s k_ t6 w h=>zal (Eq.mpr (zuu i s k_ t6 w Q) (have h:=(ref02_round_h4.eq_2 i s k_ t6 w k).symm.trans h; zab h (fun h=>zad h fun hc0 h=>zad h fun hc1 h=>zad h fun hc2 h=>zad h fun hc3 h=>zad h fun hc4 h=>(zl7 hQ k) _ _ _ _ _ h) (fun h=>(zfN hQ _).1 _ _ _ _ _ _ h)))
theorem zfG {r:Vector UInt32 8} {Q:CallOut→Prop} (hQ:Q (zbZ r)):∀ k:Nat,(∀ (b:List UInt8) (i:Int) (s:Vector UInt32 8) (k_:Vector UInt32 64) (t6:Vector UInt32 8) (w:Vector UInt32 64),ref02_round_h0 k b i s k_ t6 w=some r→zah zae zap [true,true,false,true,false] zav (zfS b i s k_ t6 w) (fnK zae zaw zao Q))∧(∀ (b:List UInt8) (i:Int) (j:Int) (s:Vector UInt32 8) (k_:Vector UInt32 64) (t6:Vector UInt32 8) (w:Vector UInt32 64),ref02_round_h2 k b i j s k_ t6 w=some r→zah zae zap [true,true,false,true,false,false,true,false,false,true,false] zav (zfE b i j s k_ t6 w) (fnK zae zaw zao Q))
 | 0=>⟨fun _ _ _ _ _ _ h=>zb9 h,fun _ _ _ _ _ _ _ h=>zb9 h⟩
 | k+1=>⟨fun b i s k_ t6 w h=>zal (Eq.mpr (ztM b i s k_ t6 w Q) (have h:=(ref02_round_h0.eq_2 b i s k_ t6 w k).symm.trans h; zab h (fun h=>(zfG hQ k).2 _ _ _ _ _ _ _ h) (fun h=>(zl7 hQ _) _ _ _ _ _ h))),
  fun b i j s k_ t6 w h=>zal (Eq.mpr (zuh b i j s k_ t6 w Q) (have h:=(ref02_round_h2.eq_2 b i j s k_ t6 w k).symm.trans h; zab h (fun h=>zad h fun hc0 h=>zad h fun hc1 h=>⟨hc0,(zfG hQ k).2 _ _ _ _ _ _ _ h⟩) (fun h=>(zfG hQ k).1 _ _ _ _ _ _ h)))⟩
theorem zxI (s:Vector UInt32 8) (b:List UInt8) (k_2:Vector UInt32 64) (Q:CallOut→Prop):zac zae zap zaw zao zav [.pv (.arr .u32 8 s),.pv (.sl .u8 b),.pv (.arr .u32 64 k_2)] [] Q =
  (zah zae zap [true,true,false,true,false] zav (zfS b (0:Int) s k_2 (Vector.replicate 8 (0:UInt32)) (Vector.replicate 64 (0:UInt32))) (fnK zae zaw zao Q)):=by kernel_rfl
theorem zwe {k:Nat} (s:Vector UInt32 8) (b:List UInt8) (k_2:Vector UInt32 64) {r} {Q:CallOut→Prop} (h:ref02_round k s b k_2=some r) (hQ:Q (zbZ r)):zac zae zap zaw zao zav [.pv (.arr .u32 8 s),.pv (.sl .u8 b),.pv (.arr .u32 64 k_2)] [] Q :=
 Eq.mpr (zxI s b k_2 Q) (have h:=(ref02_round.eq_1 k s b k_2).symm.trans h; (zfG hQ _).1 _ _ _ _ _ _ h)
def zgz:Ans
 | [.pv (.arr .u32 8 s),.pv (.sl .u8 b),.pv (.arr .u32 64 k_2)],[]=>some (some (64≤b.length),zbZ (zem k_2 s (fun i=>List.getD b i 0)))
 | _,_=>none
theorem zsP:TblOK Tryd.prog theG zjK:=.cons ⟨by kernel_rfl,zwo⟩ (.nil)
theorem zuV:FnOK Tryd.prog theG 90 (unW zgz):=by
 refine FnOK.ofC (T:=zjK) (nt:=181) (np:=0) (mv:=[]) (nf:=false) (hs:=zao) (fn:=Tryd.f90) (body:=zav) zsP (by kernel_rfl) (by kernel_rfl) (by kernel_rfl) (by kernel_rfl) (c:=zgz) (lv:=zap) ?_
 intro xs mem p out h hp
 unfold zgz at h
 split at h
 ·cases h
  obtain ⟨k,hk⟩:=zqN _ _ _ hp
  exact zwe _ _ _ hk rfl
 ·cases h
end
end Go.Proofs.YtnolgfdjcipmmaaDoor.M
namespace Go.Proofs.YtnolgfdjcipmmaaDoor.M
open Go
noncomputable section
set_option maxRecDepth 100000
set_option maxHeartbeats 0
noncomputable def zk5:Tbl:=[(89,[],zfF),(90,[],zgz)]
noncomputable def zaV:CfgW:=mkC Tryd.prog theG zk5 51 0 false
def zbJ:Nat→List Nat:=fun i=>bif Nat.beq i 2 then [4,6,8,9]else bif Nat.beq i 0 then [0,4,5,6,7]else []
noncomputable abbrev zb1:Code:=Tryd.f81.body.getD .skip
noncomputable abbrev zch:List ResultVar:=Tryd.f81.results.toList
def zbG:List Nat:=[]
def zdt (r:Vector UInt8 32):CallOut:=⟨.pv (.arr .u8 32 r),[],true,[]⟩
def zgL (h_:Vector UInt32 8) (h1:Vector UInt32 64) (i:Int) (t4:Vector UInt8 32) (p:List UInt8) (s:Vector UInt32 8):St:=⟨[(0,.rp (.st [.arr .u32 8 h_,.arr .u32 64 h1])),(4,.p 60000 []),(5,.o 60001),(6,.p 60002 []),(7,.pv (.sc .i i))],[(60000,.box (.pv (.arr .u8 32 t4))),(60001,.row (.s .u8 p) false),(60002,.box (.pv (.arr .u32 8 s)))]⟩
def zgA (i:Int) (t4:Vector UInt8 32) (s:Vector UInt32 8) (out:Vector UInt8 32):St:=⟨[(4,.p 60000 []),(6,.p 60001 []),(8,.p 60002 []),(9,.pv (.sc .i i))],[(60000,.box (.pv (.arr .u8 32 t4))),(60001,.box (.pv (.arr .u32 8 s))),(60002,.box (.pv (.arr .u8 32 out)))]⟩
theorem zwS (h_:Vector UInt32 8) (h1:Vector UInt32 64) (i:Int) (t4:Vector UInt8 32) (p:List UInt8) (s:Vector UInt32 8) (Q:CallOut→Prop):zas zaV zbJ [true,true,true,false,true,false] zb1 (zgL h_ h1 i t4 p s) (fnK zaV zch zbG Q) =
  (zaf (decide (i < (((List.length p):Nat):Int))) ((((0:Int)≤i)∧((i≤(w64 (i+(64:Int))))∧((w64 (i+(64:Int)))≤(((List.length p):Nat):Int))))∧(((64:Nat)≤(List.length (List.take ((Int.toNat (w64 (i+(64:Int)))) - (Int.toNat i)) (List.drop (Int.toNat i) p))))∧(zah zaV zbJ [true,true,true,false,true,false] zb1 (zgL h_ h1 (w64 (i+(64:Int))) t4 p (zem h1 s (fun(z7:Nat)=>(List.getD (List.take ((Int.toNat (w64 (i+(64:Int)))) - (Int.toNat i)) (List.drop (Int.toNat i) p)) z7 (0:UInt8))))) (fnK zaV zch zbG Q)))) (zah zaV zbJ [true,true,true,true,true,false,true,false] zb1 (zgA (0:Int) t4 s (Vector.replicate 32 (0:UInt8))) (fnK zaV zch zbG Q))):=by kernel_rfl
theorem zwO (i:Int) (t4:Vector UInt8 32) (s:Vector UInt32 8) (out:Vector UInt8 32) (Q:CallOut→Prop):zas zaV zbJ [true,true,true,true,true,false,true,false] zb1 (zgA i t4 s out) (fnK zaV zch zbG Q) =
  (zaf (decide (i < (32:Int))) (((4:Int)≠(0:Int))∧((((0:Int)≤(w64 (Int.tdiv i (4:Int))))∧((w64 (Int.tdiv i (4:Int))) < (8:Int)))∧(((4:Int)≠(0:Int))∧((((0:Int)≤i)∧(i < (32:Int)))∧(zah zaV zbJ [true,true,true,true,true,false,true,false] zb1 (zgA (w64 (i+(1:Int))) t4 s (Vector.setIfInBounds out (Int.toNat i) (UInt32.toUInt8 (zaP (List.getD (Vector.toList s) (Int.toNat (w64 (Int.tdiv i (4:Int)))) (0:UInt32)) (UInt64.toNat (UInt64.ofInt (w64 ((24:Int) - (w64 ((8:Int)*(Int.tmod i (4:Int)))))))))))) (fnK zaV zch zbG Q)))))) (Q (zdt out))):=by kernel_rfl
theorem zoh {r:Vector UInt8 32} {Q:CallOut→Prop} (hQ:Q (zdt r)):∀ k:Nat,(∀ (i:Int) (t4:Vector UInt8 32) (s:Vector UInt32 8) (out:Vector UInt8 32),ref02_hSum_h2 k i t4 s out=some r→zah zaV zbJ [true,true,true,true,true,false,true,false] zb1 (zgA i t4 s out) (fnK zaV zch zbG Q))
 | 0=>fun _ _ _ _ h=>zb9 h
 | k+1=>fun i t4 s out h=>zal (Eq.mpr (zwO i t4 s out Q) (have h:=(ref02_hSum_h2.eq_2 i t4 s out k).symm.trans h; zab h (fun h=>⟨by decide +kernel,zad h fun hc0 h=>⟨by decide +kernel,zad h fun hc1 h=>(zoh hQ k) _ _ _ _ h⟩⟩) (fun h=>zag (Q:=Q) (e:=zdt) h hQ)))
theorem zoF {r:Vector UInt8 32} {Q:CallOut→Prop} (hQ:Q (zdt r)):∀ k:Nat,(∀ (h_:Vector UInt32 8) (h1:Vector UInt32 64) (i:Int) (t4:Vector UInt8 32) (p:List UInt8) (s:Vector UInt32 8),ref02_hSum_h0 k h_ h1 i t4 p s=some r→zah zaV zbJ [true,true,true,false,true,false] zb1 (zgL h_ h1 i t4 p s) (fnK zaV zch zbG Q))
 | 0=>fun _ _ _ _ _ _ h=>zb9 h
 | k+1=>fun h_ h1 i t4 p s h=>zal (Eq.mpr (zwS h_ h1 i t4 p s Q) (have h:=(ref02_hSum_h0.eq_2 h_ h1 i t4 p s k).symm.trans h; zab h (fun h=>zad h fun hc0 h=>zad h fun hc1 h=>(zoF hQ k) _ _ _ _ _ _ h) (fun h=>(zoh hQ _) _ _ _ _ h)))
theorem zzM (h_0_begin:Vector UInt32 8) (h_0_k:Vector UInt32 64) (b:List UInt8) (Q:CallOut→Prop):zac zaV zbJ zch zbG zb1 [.rp (.st [.arr .u32 8 h_0_begin,.arr .u32 64 h_0_k]),.pv (.sl .u8 b)] [] Q =
  (((List.length b)≤(1099511627776:Nat))∧(zah zaV zbJ [true,true,true,false,true,false] zb1 (zgL h_0_begin h_0_k (0:Int) (Vector.replicate 32 (0:UInt8)) (zcg b) h_0_begin) (fnK zaV zch zbG Q))):=by kernel_rfl
theorem zyL {k:Nat} (h_0_begin:Vector UInt32 8) (h_0_k:Vector UInt32 64) (b:List UInt8) {r} {Q:CallOut→Prop} (h:ref02_hSum k h_0_begin h_0_k b=some r) (hQ:Q (zdt r)):zac zaV zbJ zch zbG zb1 [.rp (.st [.arr .u32 8 h_0_begin,.arr .u32 64 h_0_k]),.pv (.sl .u8 b)] [] Q :=
 Eq.mpr (zzM h_0_begin h_0_k b Q) (have h:=(ref02_hSum.eq_1 k h_0_begin h_0_k b).symm.trans h; zad h fun hc0 h=>(zoF hQ _) _ _ _ _ _ _ h)
def zhA:Ans
 | [.rp (.st [.arr .u32 8 h_0_begin,.arr .u32 64 h_0_k]),.pv (.sl .u8 b)],[]=>some (some (b.length≤1099511627776∧h_0_begin=zcS∧h_0_k=shaK),zdt (za4 b))
 | _,_=>none
theorem zuq:TblOK Tryd.prog theG zk5:=.cons ⟨by kernel_rfl,zrw⟩ (.cons ⟨by kernel_rfl,zuV⟩ (.nil))
theorem zwl:FnOK Tryd.prog theG 81 (unW zhA):=by
 refine FnOK.ofC (T:=zk5) (nt:=51) (np:=0) (mv:=[]) (nf:=false) (hs:=zbG) (fn:=Tryd.f81) (body:=zb1) zuq (by kernel_rfl) (by kernel_rfl) (by kernel_rfl) (by kernel_rfl) (c:=zhA) (lv:=zbJ) ?_
 intro xs mem p out h hp
 unfold zhA at h
 split at h
 ·cases h
  obtain ⟨k,hk⟩:=zsD _ _ _ hp
  exact zyL _ _ _ hk rfl
 ·cases h
end
end Go.Proofs.YtnolgfdjcipmmaaDoor.M
namespace Go.Proofs.YtnolgfdjcipmmaaDoor.M
open Go
noncomputable section
set_option maxRecDepth 100000
set_option maxHeartbeats 0
noncomputable def zib:Tbl:=[(81,[],zhA),(70,[],zfX)]
noncomputable def zmb:CfgW:=mkC Tryd.prog theG zib 11 0 false
def zhg:Nat→List Nat:=fun i=>[]
noncomputable abbrev zh9:Code:=Tryd.f69.body.getD .skip
noncomputable abbrev zmf:List ResultVar:=Tryd.f69.results.toList
def zgV:List Nat:=[]
def zej (r:Vector UInt8 32):CallOut:=⟨.pv (.arr .u8 32 r),[],true,[]⟩
theorem zuF (h_0_begin:Vector UInt32 8) (h_0_k:Vector UInt32 64) (b:List UInt8) (Q:CallOut→Prop):zac zmb zhg zmf zgV zh9 [.rp (.st [.arr .u32 8 h_0_begin,.arr .u32 64 h_0_k]),.pv (.sl .u8 b)] [] Q =
  ((((List.length b)≤(1099511627776:Nat))∧((h_0_begin=zcS)∧(h_0_k=shaK)))∧((((List.length (Vector.toList (za4 b)))≤(1099511627776:Nat))∧((h_0_begin=zcS)∧(h_0_k=shaK)))∧(Q (zej (za4 (Vector.toList (za4 b))))))):=by kernel_rfl
theorem zug (h_0_begin:Vector UInt32 8) (h_0_k:Vector UInt32 64) (b:List UInt8) {r} {Q:CallOut→Prop} (h:ref02_hTwice h_0_begin h_0_k b=some r) (hQ:Q (zej r)):zac zmb zhg zmf zgV zh9 [.rp (.st [.arr .u32 8 h_0_begin,.arr .u32 64 h_0_k]),.pv (.sl .u8 b)] [] Q :=
 Eq.mpr (zuF h_0_begin h_0_k b Q) (have h:=(ref02_hTwice.eq_1 h_0_begin h_0_k b).symm.trans h; zad h fun hc0 h=>zad h fun hc1 h=>zag (Q:=Q) (e:=zej) h hQ)
def zfL:Ans
 | [.rp (.st [.arr .u32 8 h_0_begin,.arr .u32 64 h_0_k]),.pv (.sl .u8 b)],[]=>some (some (b.length≤1099511627776∧h_0_begin=zcS∧h_0_k=shaK),zej (za4 (Vector.toList (za4 b))))
 | _,_=>none
theorem zq5:TblOK Tryd.prog theG zib:=.cons ⟨by kernel_rfl,zwl⟩ (.cons ⟨by kernel_rfl,zn2⟩ (.nil))
theorem zrA:FnOK Tryd.prog theG 69 (unW zfL):=by
 refine FnOK.ofC (T:=zib) (nt:=11) (np:=0) (mv:=[]) (nf:=false) (hs:=zgV) (fn:=Tryd.f69) (body:=zh9) zq5 (by kernel_rfl) (by kernel_rfl) (by kernel_rfl) (by kernel_rfl) (c:=zfL) (lv:=zhg) ?_
 intro xs mem p out h hp
 unfold zfL at h
 split at h
 ·cases h
  exact zug _ _ _ (zpo _ _ _ hp) rfl
 ·cases h
end
end Go.Proofs.YtnolgfdjcipmmaaDoor.M
namespace Go.Proofs.YtnolgfdjcipmmaaDoor.M
open Go
noncomputable section
set_option maxRecDepth 100000
set_option maxHeartbeats 0
noncomputable def zi9:Tbl:=[(68,[],zjo),(69,[],zfL)]
noncomputable def zn7:CfgW:=mkC Tryd.prog theG zi9 6 0 false
def zia:Nat→List Nat:=fun i=>[]
noncomputable abbrev zjI:Code:=Tryd.f48.body.getD .skip
noncomputable abbrev zot:List ResultVar:=Tryd.f48.results.toList
def zhT:List Nat:=[]
def zeR (r:Vector UInt8 32):CallOut:=⟨.pv (.arr .u8 32 r),[],true,[]⟩
theorem zxu (b:List UInt8) (Q:CallOut→Prop):zac zn7 zia zot zhT zjI [.pv (.sl .u8 b)] [] Q =
  ((((List.length b)≤(1099511627776:Nat))∧((zcS=zcS)∧(shaK=shaK)))∧(Q (zeR (za4 (Vector.toList (za4 b)))))):=by kernel_rfl
theorem zwt (b:List UInt8) {r} {Q:CallOut→Prop} (h:ref02_Twice b=some r) (hQ:Q (zeR r)):zac zn7 zia zot zhT zjI [.pv (.sl .u8 b)] [] Q :=
 Eq.mpr (zxu b Q) (have h:=(ref02_Twice.eq_1 b).symm.trans h; zad h fun hc0 h=>zag (Q:=Q) (e:=zeR) h hQ)
def zgu:Ans
 | [.pv (.sl .u8 b)],[]=>some (some (b.length≤1099511627776),zeR (za4 (Vector.toList (za4 b))))
 | _,_=>none
theorem zru:TblOK Tryd.prog theG zi9:=.cons ⟨by kernel_rfl,zzD⟩ (.cons ⟨by kernel_rfl,zrA⟩ (.nil))
theorem zua:FnOK Tryd.prog theG 48 (unW zgu):=by
 refine FnOK.ofC (T:=zi9) (nt:=6) (np:=0) (mv:=[]) (nf:=false) (hs:=zhT) (fn:=Tryd.f48) (body:=zjI) zru (by kernel_rfl) (by kernel_rfl) (by kernel_rfl) (by kernel_rfl) (c:=zgu) (lv:=zia) ?_
 intro xs mem p out h hp
 unfold zgu at h
 split at h
 ·cases h
  exact zwt _ (zqT _ hp) rfl
 ·cases h
end
end Go.Proofs.YtnolgfdjcipmmaaDoor.M
