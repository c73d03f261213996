/- Part of the proofs: what functions of the program do: plain functions, and the walks that show it. No condition. -/
import Derived.KernelRfl
import Derived.Test.YtnolgfdjcipmmaaDoorProg
import Derived.Test.YtnolgfdjcipmmaaDoorLe
import Derived.Test.YtnolgfdjcipmmaaDoorSwords
import Derived.Test.YtnolgfdjcipmmaaDoorSshaS
import Derived.Test.YtnolgfdjcipmmaaDoorSmerS
import Derived.Test.YtnolgfdjcipmmaaDoorSshaK
set_option linter.unusedVariables false
set_option linter.unusedSimpArgs false
set_option autoImplicit false
namespace Go.Proofs.YtnolgfdjcipmmaaDoor.M
open Go
noncomputable section
def ref02_List_h0:Nat→Int→(Vector UInt8 32)→(List UInt8)→Option (List UInt8)
  | 0,_,_,_=>none
  | k+1,i,h_,out=>bif decide (i < (32:Int)) then(if((0:Int)≤i)∧(i < (32:Int)) then
        if(((List.length (out++([(List.getD (Vector.toList h_) (Int.toNat i) (0:UInt8))]:List UInt8)))*(1:Nat))≤(70368744177664:Nat))∧((List.length (out++([(List.getD (Vector.toList h_) (Int.toNat i) (0:UInt8))]:List UInt8)))≤(70368744177664:Nat)) then
          ref02_List_h0 k (w64 (i+(1:Int))) h_ (out++([(List.getD (Vector.toList h_) (Int.toNat i) (0:UInt8))]:List UInt8))
        else none
      else none)
      else(some out)
def ref02_List (k:Nat) (h_0:Vector UInt8 32):Option (List UInt8) :=
  ref02_List_h0 k (0:Int) h_0 ([]:List UInt8)
theorem zrJ (h:Vector UInt8 32):∃ k,ref02_List k h=some (Vector.toList h):=by
  show Ev (fun k=>ref02_List k h) _
  refine Ev.same (fun k=>ref02_List.eq_1 k h) ?_
  have e:Vector.toList h=zbi (fun i l=>l++[List.getD (Vector.toList h) i 0]) 0 32 []:=by rw[zk7 (fun i=>List.getD (Vector.toList h) i 0),zD3]; rfl
  have hl:∀ m,(zbi (fun i l=>l++[List.getD (Vector.toList h) i 0]) 0 m []).length=m:=by
    intro m; rw[zk7 (fun i=>List.getD (Vector.toList h) i 0)]; simp
  have gen:∀ m i,i+m=32→Ev (fun k=>ref02_List_h0 k ((i:Nat):Int) h (zbi (fun i l=>l++[List.getD (Vector.toList h) i 0]) 0 i [])) (Vector.toList h):=by
    intro m
    induction m with
    | zero =>
      intro i hi
      obtain rfl:i=32:=by omega
      refine Ev.done fun k=>?_
      rw[ref02_List_h0.eq_2,zax (by omega),←e]
    | succ m ih =>
      intro i hi
      refine Ev.step (fun k=>?_) (ih (i+1) (by omega))
      have h1:=hl (i+1)
      rw[zcf,Nat.zero_add]at h1
      rw[ref02_List_h0.eq_2,zav (by omega),if_pos (by omega),Int.toNat_natCast,h1,if_pos (by omega),zao (by omega) (by omega),zcf,Nat.zero_add]
      rfl
  exact gen 32 0 rfl
end
end Go.Proofs.YtnolgfdjcipmmaaDoor.M
namespace Go.Proofs.YtnolgfdjcipmmaaDoor.M
open Go
noncomputable section
def ref02_New  : Vector UInt32 8 × Vector UInt32 64 :=
  ((Vector.setIfInBounds (Vector.setIfInBounds (Vector.setIfInBounds (Vector.setIfInBounds (Vector.setIfInBounds (Vector.setIfInBounds (Vector.setIfInBounds (Vector.setIfInBounds (Vector.replicate 8 (0:UInt32)) (0:Nat) (1779033703:UInt32)) (1:Nat) (3144134277:UInt32)) (2:Nat) (1013904242:UInt32)) (3:Nat) (2773480762:UInt32)) (4:Nat) (1359893119:UInt32)) (5:Nat) (2600822924:UInt32)) (6:Nat) (528734635:UInt32)) (7:Nat) (1541459225:UInt32)),(Vector.setIfInBounds (Vector.setIfInBounds (Vector.setIfInBounds (Vector.setIfInBounds (Vector.setIfInBounds (Vector.setIfInBounds (Vector.setIfInBounds (Vector.setIfInBounds (Vector.setIfInBounds (Vector.setIfInBounds (Vector.setIfInBounds (Vector.setIfInBounds (Vector.setIfInBounds (Vector.setIfInBounds (Vector.setIfInBounds (Vector.setIfInBounds (Vector.setIfInBounds (Vector.setIfInBounds (Vector.setIfInBounds (Vector.setIfInBounds (Vector.setIfInBounds (Vector.setIfInBounds (Vector.setIfInBounds (Vector.setIfInBounds (Vector.setIfInBounds (Vector.setIfInBounds (Vector.setIfInBounds (Vector.setIfInBounds (Vector.setIfInBounds (Vector.setIfInBounds (Vector.setIfInBounds (Vector.setIfInBounds (Vector.setIfInBounds (Vector.setIfInBounds (Vector.setIfInBounds (Vector.setIfInBounds (Vector.setIfInBounds (Vector.setIfInBounds (Vector.setIfInBounds (Vector.setIfInBounds (Vector.setIfInBounds (Vector.setIfInBounds (Vector.setIfInBounds (Vector.setIfInBounds (Vector.setIfInBounds (Vector.setIfInBounds (Vector.setIfInBounds (Vector.setIfInBounds (Vector.setIfInBounds (Vector.setIfInBounds (Vector.setIfInBounds (Vector.setIfInBounds (Vector.setIfInBounds (Vector.setIfInBounds (Vector.setIfInBounds (Vector.setIfInBounds (Vector.setIfInBounds (Vector.setIfInBounds (Vector.setIfInBounds (Vector.setIfInBounds (Vector.setIfInBounds (Vector.setIfInBounds (Vector.setIfInBounds (Vector.setIfInBounds (Vector.replicate 64 (0:UInt32)) (0:Nat) (1116352408:UInt32)) (1:Nat) (1899447441:UInt32)) (2:Nat) (3049323471:UInt32)) (3:Nat) (3921009573:UInt32)) (4:Nat) (961987163:UInt32)) (5:Nat) (1508970993:UInt32)) (6:Nat) (2453635748:UInt32)) (7:Nat) (2870763221:UInt32)) (8:Nat) (3624381080:UInt32)) (9:Nat) (310598401:UInt32)) (10:Nat) (607225278:UInt32)) (11:Nat) (1426881987:UInt32)) (12:Nat) (1925078388:UInt32)) (13:Nat) (2162078206:UInt32)) (14:Nat) (2614888103:UInt32)) (15:Nat) (3248222580:UInt32)) (16:Nat) (3835390401:UInt32)) (17:Nat) (4022224774:UInt32)) (18:Nat) (264347078:UInt32)) (19:Nat) (604807628:UInt32)) (20:Nat) (770255983:UInt32)) (21:Nat) (1249150122:UInt32)) (22:Nat) (1555081692:UInt32)) (23:Nat) (1996064986:UInt32)) (24:Nat) (2554220882:UInt32)) (25:Nat) (2821834349:UInt32)) (26:Nat) (2952996808:UInt32)) (27:Nat) (3210313671:UInt32)) (28:Nat) (3336571891:UInt32)) (29:Nat) (3584528711:UInt32)) (30:Nat) (113926993:UInt32)) (31:Nat) (338241895:UInt32)) (32:Nat) (666307205:UInt32)) (33:Nat) (773529912:UInt32)) (34:Nat) (1294757372:UInt32)) (35:Nat) (1396182291:UInt32)) (36:Nat) (1695183700:UInt32)) (37:Nat) (1986661051:UInt32)) (38:Nat) (2177026350:UInt32)) (39:Nat) (2456956037:UInt32)) (40:Nat) (2730485921:UInt32)) (41:Nat) (2820302411:UInt32)) (42:Nat) (3259730800:UInt32)) (43:Nat) (3345764771:UInt32)) (44:Nat) (3516065817:UInt32)) (45:Nat) (3600352804:UInt32)) (46:Nat) (4094571909:UInt32)) (47:Nat) (275423344:UInt32)) (48:Nat) (430227734:UInt32)) (49:Nat) (506948616:UInt32)) (50:Nat) (659060556:UInt32)) (51:Nat) (883997877:UInt32)) (52:Nat) (958139571:UInt32)) (53:Nat) (1322822218:UInt32)) (54:Nat) (1537002063:UInt32)) (55:Nat) (1747873779:UInt32)) (56:Nat) (1955562222:UInt32)) (57:Nat) (2024104815:UInt32)) (58:Nat) (2227730452:UInt32)) (59:Nat) (2361852424:UInt32)) (60:Nat) (2428436474:UInt32)) (61:Nat) (2756734187:UInt32)) (62:Nat) (3204031479:UInt32)) (63:Nat) (3329325298:UInt32)))
theorem ztT:ref02_New=(zb4,shaK):=by kernel_rfl
end
end Go.Proofs.YtnolgfdjcipmmaaDoor.M
namespace Go.Proofs.YtnolgfdjcipmmaaDoor.M
open Go
noncomputable section
def ref02_Padded_h2:Nat→UInt64→Int→(List UInt8)→Option (List UInt8)
  | 0,_,_,_=>none
  | k+1,n,i,out=>bif decide (i < (8:Int)) then(if(((List.length (out++([(UInt64.toUInt8 (zaa n (UInt64.toNat (UInt64.ofInt (w64 ((56:Int) - (w64 ((8:Int)*i))))))))]:List UInt8)))*(1:Nat))≤(70368744177664:Nat))∧((List.length (out++([(UInt64.toUInt8 (zaa n (UInt64.toNat (UInt64.ofInt (w64 ((56:Int) - (w64 ((8:Int)*i))))))))]:List UInt8)))≤(70368744177664:Nat)) then
        ref02_Padded_h2 k n (w64 (i+(1:Int))) (out++([(UInt64.toUInt8 (zaa n (UInt64.toNat (UInt64.ofInt (w64 ((56:Int) - (w64 ((8:Int)*i))))))))]:List UInt8))
      else none)
      else(some out)
def ref02_Padded_h0:Nat→(List UInt8)→(List UInt8)→Option (List UInt8)
  | 0,_,_=>none
  | k+1,b,out=>bif !(decide ((Int.tmod (((List.length out):Nat):Int) (64:Int))=(56:Int))) then(if(((List.length (out++([(0:UInt8)]:List UInt8)))*(1:Nat))≤(70368744177664:Nat))∧((List.length (out++([(0:UInt8)]:List UInt8)))≤(70368744177664:Nat)) then
        ref02_Padded_h0 k b (out++([(0:UInt8)]:List UInt8))
      else none)
      else(ref02_Padded_h2 k ((8:UInt64)*(UInt64.ofInt (((List.length b):Nat):Int))) (0:Int) out)
def ref02_Padded (k:Nat) (b:List UInt8):Option (List UInt8) :=
  if(
      ((List.length (([]:List UInt8)++b))*(1:Nat))≤(70368744177664:Nat))∧((List.length (([]:List UInt8)++b))≤(70368744177664:Nat)) then
    if(((List.length ((([]:List UInt8)++b)++([(128:UInt8)]:List UInt8)))*(1:Nat))≤(70368744177664:Nat))∧((List.length ((([]:List UInt8)++b)++([(128:UInt8)]:List UInt8)))≤(70368744177664:Nat)) then
      ref02_Padded_h0 k b ((([]:List UInt8)++b)++([(128:UInt8)]:List UInt8))
    else none
  else none
theorem zrB (b out:List UInt8) (ho:out.length≤1100000000000):Ev (fun k=>ref02_Padded_h2 k ((8:UInt64)*UInt64.ofInt ((b.length:Nat):Int)) 0 out) (out++zbX (zah (UInt64.ofInt ((b.length:Nat):Int)) 3) 8):=by
  generalize hn:UInt64.ofInt ((b.length:Nat):Int)=n
  have e8:(8:UInt64)*n=zah n 3:=by
    apply UInt64.toNat_inj.1
    unfold zah
    rw[UInt64.toNat_mul,UInt64.toNat_ofNat',show (8:UInt64).toNat=8 from rfl,show min 3 64=3 from rfl,Nat.mul_comm]
  rw[e8]
  generalize zah n 3=m
  refine Ev.upI (H:=fun k i out=>ref02_Padded_h2 k m i out) (lo:=0) (n:=8) (step:=fun i l=>l++[(zaa m (56 - 8*i)).toUInt8]) (fun i l=>l.length=out.length+i) ?_ ?_ 8 0 out (Nat.le_refl 0) rfl rfl ?_
  · intro i s _ _ h
    simp[h]; omega
  · intro i s _ hi h e
    refine Ev.step (fun k=>?_) e
    have a1:w64 (8*(i:Int))=((8*i:Nat):Int):=by rw[zao (by omega) (by omega)]; omega
    have a2:w64 (56 - ((8*i:Nat):Int))=((56 - 8*i:Nat):Int):=by rw[zao (by omega) (by omega)]; omega
    have a3:(UInt64.ofInt ((56 - 8*i:Nat):Int)).toNat=56 - 8*i:=by
      have:i=0∨i=1∨i=2∨i=3∨i=4∨i=5∨i=6∨i=7:=by omega
      rcases this with h | h | h | h | h | h | h | h<;>subst h<;>rfl
    rw[ref02_Padded_h2.eq_2,zav (by omega),a1,a2,a3,if_pos (by simp[h]; omega),zao (by omega) (by omega)]
  · refine Ev.done fun k=>?_
    rw[ref02_Padded_h2.eq_2,zax (by omega),zk7 (fun i=>(zaa m (56 - 8*i)).toUInt8)]
    rfl
theorem zom (b:List UInt8) (hb:b.length≤1099511627776):∃ k,ref02_Padded k b=some (zbD b):=by
  show Ev (fun k=>ref02_Padded k b) _
  refine Ev.same (g:=fun k=>ref02_Padded_h0 k b (b++[128])) (fun k=>by rw[ref02_Padded.eq_1,List.nil_append,if_pos (by omega),if_pos (by simp; omega)]) ?_
  have hz:zbz b.length < 64:=Nat.mod_lt _ (by omega)
  have gen:∀ m i,i+m=zbz b.length→Ev (fun k=>ref02_Padded_h0 k b (b++[128]++List.replicate i 0)) (zbD b):=by
    intro m
    induction m with
    | zero =>
      intro i hi
      obtain rfl:i=zbz b.length:=by omega
      refine Ev.step (fun k=>?_) (zrB b (b++[128]++List.replicate (zbz b.length) 0) (by simp; omega))
      have hl:(b++[128]++List.replicate (zbz b.length) 0).length % 64=56:=by simp[zbz]; omega
      rw[ref02_Padded_h0.eq_2,decide_eq_true (by
        have:Int.tmod (((b++[128]++List.replicate (zbz b.length) 0).length:Nat):Int) 64=(((b++[128]++List.replicate (zbz b.length) 0).length % 64:Nat):Int):=rfl
        rw[this,hl]; rfl)]
      rfl
    | succ m ih =>
      intro i hi
      refine Ev.step (fun k=>?_) (ih (i+1) (by omega))
      have hl:(b++[128]++List.replicate i 0).length % 64≠56:=by simp[zbz]at hi ⊢; omega
      rw[ref02_Padded_h0.eq_2,decide_eq_false (by
        have:Int.tmod (((b++[128]++List.replicate i 0).length:Nat):Int) 64=(((b++[128]++List.replicate i 0).length % 64:Nat):Int):=rfl
        rw[this]; omega),Bool.not_false,cond_true,if_pos (by simp; omega),List.append_assoc,←List.replicate_succ']
  have:=gen (zbz b.length) 0 (by omega)
  simpa using this
end
end Go.Proofs.YtnolgfdjcipmmaaDoor.M
namespace Go.Proofs.YtnolgfdjcipmmaaDoor.M
open Go
noncomputable section
def ref02_turn (x_0:UInt32) (n:UInt64):UInt32 :=
  ((zaE x_0 (UInt64.toNat n)) ||| (zbA x_0 (UInt64.toNat ((32:UInt64) - n))))
end
end Go.Proofs.YtnolgfdjcipmmaaDoor.M
namespace Go.Proofs.YtnolgfdjcipmmaaDoor.M
open Go
noncomputable section
def ref02_round_h10:Nat→Int→(Vector UInt32 8)→(Vector UInt32 8)→(Vector UInt32 8)→Option (Vector UInt32 8)
  | 0,_,_,_,_=>none
  | k+1,i,s,t6,v=>bif decide (i < (8:Int)) then(if((0:Int)≤i)∧(i < (8:Int)) then
        ref02_round_h10 k (w64 (i+(1:Int))) s t6 (Vector.setIfInBounds v (Int.toNat i) ((List.getD (Vector.toList v) (Int.toNat i) (0:UInt32))+(List.getD (Vector.toList s) (Int.toNat i) (0:UInt32))))
      else none)
      else(some v)
mutual
def ref02_round_h6:Nat→Int→(Vector UInt32 8)→(Vector UInt32 64)→(Vector UInt32 8)→(Vector UInt32 64)→(Vector UInt32 8)→Option (Vector UInt32 8)
  | 0,_,_,_,_,_,_=>none
  | k+1,i,s,k_,t6,w,v=>bif decide (i < (64:Int)) then(if((0:Int)≤i)∧(i < (64:Int)) then
        ref02_round_h8 k i (((((List.getD (Vector.toList v) (7:Nat) (0:UInt32))+(((ref02_turn (List.getD (Vector.toList v) (4:Nat) (0:UInt32)) (6:UInt64)) ^^^ (ref02_turn (List.getD (Vector.toList v) (4:Nat) (0:UInt32)) (11:UInt64))) ^^^ (ref02_turn (List.getD (Vector.toList v) (4:Nat) (0:UInt32)) (25:UInt64))))+(((List.getD (Vector.toList v) (4:Nat) (0:UInt32)) &&& (List.getD (Vector.toList v) (5:Nat) (0:UInt32))) ^^^ ((~~~(List.getD (Vector.toList v) (4:Nat) (0:UInt32))) &&& (List.getD (Vector.toList v) (6:Nat) (0:UInt32)))))+(List.getD (Vector.toList k_) (Int.toNat i) (0:UInt32)))+(List.getD (Vector.toList w) (Int.toNat i) (0:UInt32))) ((((ref02_turn (List.getD (Vector.toList v) (0:Nat) (0:UInt32)) (2:UInt64)) ^^^ (ref02_turn (List.getD (Vector.toList v) (0:Nat) (0:UInt32)) (13:UInt64))) ^^^ (ref02_turn (List.getD (Vector.toList v) (0:Nat) (0:UInt32)) (22:UInt64)))+((((List.getD (Vector.toList v) (0:Nat) (0:UInt32)) &&& (List.getD (Vector.toList v) (1:Nat) (0:UInt32))) ^^^ ((List.getD (Vector.toList v) (0:Nat) (0:UInt32)) &&& (List.getD (Vector.toList v) (2:Nat) (0:UInt32)))) ^^^ ((List.getD (Vector.toList v) (1:Nat) (0:UInt32)) &&& (List.getD (Vector.toList v) (2:Nat) (0:UInt32))))) (7:Int) s k_ t6 w v
      else none)
      else(ref02_round_h10 k (0:Int) s t6 v)
def ref02_round_h8:Nat→Int→UInt32→UInt32→Int→(Vector UInt32 8)→(Vector UInt32 64)→(Vector UInt32 8)→(Vector UInt32 64)→(Vector UInt32 8)→Option (Vector UInt32 8)
  | 0,_,_,_,_,_,_,_,_,_=>none
  | k+1,i,t,u,j,s,k_,t6,w,v=>bif decide ((0:Int) < j) then(if((0:Int)≤(w64 (j - (1:Int))))∧((w64 (j - (1:Int))) < (8:Int)) then
        if((0:Int)≤j)∧(j < (8:Int)) then
          ref02_round_h8 k i t u (w64 (j - (1:Int))) s k_ t6 w (Vector.setIfInBounds v (Int.toNat j) (List.getD (Vector.toList v) (Int.toNat (w64 (j - (1:Int)))) (0:UInt32)))
        else none
      else none)
      else(ref02_round_h6 k (w64 (i+(1:Int))) s k_ t6 w (Vector.setIfInBounds (Vector.setIfInBounds v (4:Nat) ((List.getD (Vector.toList v) (4:Nat) (0:UInt32))+t)) (0:Nat) (t+u)))
end
def ref02_round_h4:Nat→Int→(Vector UInt32 8)→(Vector UInt32 64)→(Vector UInt32 8)→(Vector UInt32 64)→Option (Vector UInt32 8)
  | 0,_,_,_,_,_=>none
  | k+1,i,s,k_,t6,w=>bif decide (i < (64:Int)) then(if((0:Int)≤(w64 (i - (15:Int))))∧((w64 (i - (15:Int))) < (64:Int)) then
        if(
            (0:Int)≤(w64 (i - (2:Int))))∧((w64 (i - (2:Int))) < (64:Int)) then
          if(
              (0:Int)≤(w64 (i - (16:Int))))∧((w64 (i - (16:Int))) < (64:Int)) then
            if(
                (0:Int)≤(w64 (i - (7:Int))))∧((w64 (i - (7:Int))) < (64:Int)) then
              if((0:Int)≤i)∧(i < (64:Int)) then
                ref02_round_h4 k (w64 (i+(1:Int))) s k_ t6 (Vector.setIfInBounds w (Int.toNat i) ((((List.getD (Vector.toList w) (Int.toNat (w64 (i - (16:Int)))) (0:UInt32))+(((ref02_turn (List.getD (Vector.toList w) (Int.toNat (w64 (i - (15:Int)))) (0:UInt32)) (7:UInt64)) ^^^ (ref02_turn (List.getD (Vector.toList w) (Int.toNat (w64 (i - (15:Int)))) (0:UInt32)) (18:UInt64))) ^^^ (zaE (List.getD (Vector.toList w) (Int.toNat (w64 (i - (15:Int)))) (0:UInt32)) (3:Nat))))+(List.getD (Vector.toList w) (Int.toNat (w64 (i - (7:Int)))) (0:UInt32)))+(((ref02_turn (List.getD (Vector.toList w) (Int.toNat (w64 (i - (2:Int)))) (0:UInt32)) (17:UInt64)) ^^^ (ref02_turn (List.getD (Vector.toList w) (Int.toNat (w64 (i - (2:Int)))) (0:UInt32)) (19:UInt64))) ^^^ (zaE (List.getD (Vector.toList w) (Int.toNat (w64 (i - (2:Int)))) (0:UInt32)) (10:Nat)))))
              else none
            else none
          else none
        else none
      else none)
      else(ref02_round_h6 k (0:Int) s k_ t6 w s)
mutual
def ref02_round_h0:Nat→(List UInt8)→Int→(Vector UInt32 8)→(Vector UInt32 64)→(Vector UInt32 8)→(Vector UInt32 64)→Option (Vector UInt32 8)
  | 0,_,_,_,_,_,_=>none
  | k+1,b,i,s,k_,t6,w=>bif decide (i < (16:Int)) then(ref02_round_h2 k b i (0:Int) s k_ t6 w)
      else(ref02_round_h4 k (16:Int) s k_ t6 w)
def ref02_round_h2:Nat→(List UInt8)→Int→Int→(Vector UInt32 8)→(Vector UInt32 64)→(Vector UInt32 8)→(Vector UInt32 64)→Option (Vector UInt32 8)
  | 0,_,_,_,_,_,_,_=>none
  | k+1,b,i,j,s,k_,t6,w=>bif decide (j < (4:Int)) then(if((0:Int)≤i)∧(i < (64:Int)) then
        if((0:Int)≤(w64 ((w64 ((4:Int)*i))+j)))∧((w64 ((w64 ((4:Int)*i))+j)) < (((List.length b):Nat):Int)) then
          ref02_round_h2 k b i (w64 (j+(1:Int))) s k_ t6 (Vector.setIfInBounds w (Int.toNat i) (((256:UInt32)*(List.getD (Vector.toList w) (Int.toNat i) (0:UInt32)))+(UInt8.toUInt32 (List.getD b (Int.toNat (w64 ((w64 ((4:Int)*i))+j))) (0:UInt8)))))
        else none
      else none)
      else(ref02_round_h0 k b (w64 (i+(1:Int))) s k_ t6 w)
end
def ref02_round (k:Nat) (s:Vector UInt32 8) (b:List UInt8) (k_2:Vector UInt32 64):Option (Vector UInt32 8) :=
  ref02_round_h0 k b (0:Int) s k_2 (Vector.replicate 8 (0:UInt32)) (Vector.replicate 64 (0:UInt32))
theorem znD (x:UInt32):ref02_turn x 2=shT x 2∧ref02_turn x 6=shT x 6∧ref02_turn x 7=shT x 7∧ref02_turn x 11=shT x 11∧ref02_turn x 13=shT x 13∧ref02_turn x 17=shT x 17∧ref02_turn x 18=shT x 18∧ref02_turn x 19=shT x 19∧ref02_turn x 22=shT x 22∧ref02_turn x 25=shT x 25:=by
  refine ⟨?_,?_,?_,?_,?_,?_,?_,?_,?_,?_⟩<;>rfl
theorem zGl (x:UInt32) (y:UInt8):(256:UInt32)*x+y.toUInt32=zFV x y:=by
  unfold zFV zbA
  apply UInt32.toNat_inj.1
  rw[UInt32.toNat_add,UInt32.toNat_mul,UInt32.toNat_or,UInt32.toNat_ofNat',UInt8.toNat_toUInt32]
  have hy:y.toNat < 2 ^ 8:=y.toNat_lt
  have hx:x.toNat < 2 ^ 32:=x.toNat_lt
  have e:(256:UInt32).toNat=256:=by decide
  rw[e]
  rw[show min 8 32=8 from rfl]
  have h1:x.toNat*2 ^ 8 % 2 ^ 32=2 ^ 8*(x.toNat % 2 ^ 24):=by omega
  rw[h1,←Nat.two_pow_add_eq_or_of_lt hy]
  omega
theorem ztF (a b c:UInt32):a+b+c=a+c+b:=by rw[UInt32.add_assoc,UInt32.add_comm b c,←UInt32.add_assoc]
theorem zqM (s t6 v:Vector UInt32 8):Ev (fun k=>ref02_round_h10 k 0 s t6 v) (zo1 s v):=by
  refine Ev.up (H:=fun k i v=>ref02_round_h10 k i s t6 v) (lo:=0) (n:=8) (step:=fun i (a:Vector UInt32 8)=>Vector.setIfInBounds a i (List.getD (Vector.toList a) i 0+List.getD (Vector.toList s) i 0)) ?_ 8 0 v (Nat.le_refl 0) rfl ?_
  · intro i v _ hi e
    refine Ev.step (fun k=>?_) e
    rw[ref02_round_h10.eq_2,zav (by omega),if_pos (by omega),zao (by omega) (by omega),Int.toNat_natCast]
  · refine Ev.done fun k=>?_
    rw[ref02_round_h10.eq_2,zax (by omega),zrF]
    refine congrArg some (vext 0 fun j hj=>?_)
    rw[show List.getD (Vector.toList (zo1 v s)) j 0=shG v j+shG s j from zwf (fun i=>shG v i+shG s i) j hj,
      show List.getD (Vector.toList (zo1 s v)) j 0=shG s j+shG v j from zwf (fun i=>shG s i+shG v i) j hj,UInt32.add_comm]
theorem zsW {r:Vector UInt32 8} (i:Nat) (hi:i < 64) (t u:UInt32) (s t6:Vector UInt32 8) (kt w:Vector UInt32 64) (v:Vector UInt32 8)
    (e:Ev (fun k=>ref02_round_h6 k ((i:Int)+1) s kt t6 w #v[t+u,shG v 0,shG v 1,shG v 2,shG v 3+t,shG v 4,shG v 5,shG v 6]) r):Ev (fun k=>ref02_round_h8 k i t u 7 s kt t6 w v) r:=by
  have st:∀ (j:Nat) (v:Vector UInt32 8),0 < j→j≤7→Ev (fun k=>ref02_round_h8 k i t u ((j:Int) - 1) s kt t6 w (Vector.setIfInBounds v j (List.getD (Vector.toList v) (j - 1) 0))) r→Ev (fun k=>ref02_round_h8 k i t u j s kt t6 w v) r:=by
    intro j v h0 h7 e
    refine Ev.step (fun k=>?_) e
    have a1:w64 ((j:Int) - 1)=((j - 1:Nat):Int):=by rw[zao (by omega) (by omega)]; omega
    rw[ref02_round_h8.eq_2,zav (by omega),a1,if_pos (by omega),if_pos (by omega)]
    simp only[Int.toNat_natCast]
    rw[show ((j - 1:Nat):Int)=(j:Int) - 1 by omega]
  refine st 7 v (by omega) (by omega) (st 6 _ (by omega) (by omega) (st 5 _ (by omega) (by omega) (st 4 _ (by omega) (by omega) (st 3 _ (by omega) (by omega) (st 2 _ (by omega) (by omega) (st 1 _ (by omega) (by omega) ?_))))))
  refine Ev.step (fun k=>?_) e
  rw[ref02_round_h8.eq_2,zax (by omega),zao (by omega) (by omega)]
  refine congrArg (fun y=>ref02_round_h6 k ((i:Int)+1) s kt t6 w y) ?_
  refine vext 0 fun j hj=>?_
  have:j=0∨j=1∨j=2∨j=3∨j=4∨j=5∨j=6∨j=7:=by omega
  rcases this with h | h | h | h | h | h | h | h<;>subst h<;>simp[zaC,shG]
theorem zty (s t6:Vector UInt32 8) (kt w:Vector UInt32 64) (v:Vector UInt32 8):Ev (fun k=>ref02_round_h6 k 0 s kt t6 w v) (zo1 s (zbi (zr9 kt w) 0 64 v)):=by
  refine Ev.up (H:=fun k i v=>ref02_round_h6 k i s kt t6 w v) (lo:=0) (n:=64) (step:=zr9 kt w) ?_ 64 0 v (Nat.le_refl 0) rfl ?_
  · intro i v _ hi e
    refine Ev.step (fun k=>?_) (zsW i hi (shT1 kt w i v) (shU1 v) s t6 kt w v e)
    rw[ref02_round_h6.eq_2,zav (by omega),if_pos (by omega),Int.toNat_natCast]
    have t:=fun x=>znD x
    simp only[(t _).1,(t _).2.1,(t _).2.2.1,(t _).2.2.2.1,(t _).2.2.2.2.1,(t _).2.2.2.2.2.1,(t _).2.2.2.2.2.2.1,(t _).2.2.2.2.2.2.2.1,(t _).2.2.2.2.2.2.2.2.1,(t _).2.2.2.2.2.2.2.2.2]
    rfl
  · refine Ev.step (fun k=>?_) (zqM s t6 _)
    rw[ref02_round_h6.eq_2,zax (by omega)]
theorem zqS (s:Vector UInt32 8) (b:List UInt8) (kt:Vector UInt32 64) (hb:64≤b.length):∃ k,ref02_round k s b kt=some (zhq kt s (fun i=>List.getD b i 0)):=by
  show Ev (fun k=>ref02_round k s b kt) _
  refine Ev.same (fun k=>ref02_round.eq_1 k s b kt) ?_
  let t6:Vector UInt32 8:=Vector.replicate 8 0
  let B:Nat→UInt8:=fun i=>List.getD b i 0
  have h4:Ev (fun k=>ref02_round_h4 k ((16:Nat):Int) s kt t6 (zbi (zlr B) 0 16 (Vector.replicate 64 0))) (zhq kt s B):=by
    have:Ev (fun k=>ref02_round_h4 k ((64:Nat):Int) s kt t6 (shW B)) (zhq kt s B):=by
      refine Ev.step (fun k=>?_) (zty s t6 kt (shW B) s)
      rw[ref02_round_h4.eq_2,zax (by omega)]
    refine Ev.up (H:=fun k i w=>ref02_round_h4 k i s kt t6 w) (lo:=16) (n:=64) (step:=fun i w=>Vector.setIfInBounds w i (zw7 w i)) ?_ 48 16 _ (Nat.le_refl 16) rfl this
    intro i w h16 hi e
    refine Ev.step (fun k=>?_) e
    have a1:w64 ((i:Int) - 15)=((i - 15:Nat):Int):=by rw[zao (by omega) (by omega)]; omega
    have a2:w64 ((i:Int) - 2)=((i - 2:Nat):Int):=by rw[zao (by omega) (by omega)]; omega
    have a3:w64 ((i:Int) - 16)=((i - 16:Nat):Int):=by rw[zao (by omega) (by omega)]; omega
    have a4:w64 ((i:Int) - 7)=((i - 7:Nat):Int):=by rw[zao (by omega) (by omega)]; omega
    rw[ref02_round_h4.eq_2,zav (by omega),a1,a2,a3,a4,if_pos (by omega),if_pos (by omega),if_pos (by omega),if_pos (by omega),if_pos (by omega),zao (by omega) (by omega)]
    simp only[Int.toNat_natCast]
    have t:=fun x=>znD x
    simp only[(t _).1,(t _).2.1,(t _).2.2.1,(t _).2.2.2.1,(t _).2.2.2.2.1,(t _).2.2.2.2.2.1,(t _).2.2.2.2.2.2.1,(t _).2.2.2.2.2.2.2.1,(t _).2.2.2.2.2.2.2.2.1,(t _).2.2.2.2.2.2.2.2.2]
    refine congrArg (fun y=>ref02_round_h4 k ((i:Int)+1) s kt t6 (Vector.setIfInBounds w i y)) ?_
    unfold zw7
    rw[ztF (List.getD (Vector.toList w) (i - 16) 0)]
  refine Ev.up (H:=fun k i w=>ref02_round_h0 k b i s kt t6 w) (lo:=0) (n:=16) (step:=zlr B) ?_ 16 0 _ (Nat.le_refl 0) rfl ?_
  · intro i w _ hi e
    refine Ev.step (g:=fun k=>ref02_round_h2 k b i 0 s kt t6 w) (fun k=>?_) ?_
    · rw[ref02_round_h0.eq_2,zav (by omega)]
    · refine Ev.up (H:=fun k j w=>ref02_round_h2 k b i j s kt t6 w) (lo:=0) (n:=4) (step:=fun j w=>Vector.setIfInBounds w i (zFV (List.getD (Vector.toList w) i 0) (B (4*i+j)))) ?_ 4 0 w (Nat.le_refl 0) rfl ?_
      · intro j w _ hj e
        refine Ev.step (fun k=>?_) e
        have a1:w64 (4*(i:Int))=((4*i:Nat):Int):=by rw[zao (by omega) (by omega)]; omega
        have a2:w64 (((4*i:Nat):Int)+(j:Int))=((4*i+j:Nat):Int):=by rw[zao (by omega) (by omega)]; omega
        rw[ref02_round_h2.eq_2,zav (by omega),a1,a2,if_pos (by omega),if_pos (by omega),zao (by omega) (by omega)]
        simp only[Int.toNat_natCast,zGl]
        rfl
      · refine Ev.step (fun k=>?_) e
        rw[ref02_round_h2.eq_2,zax (by omega),zao (by omega) (by omega)]
        rfl
  · refine Ev.step (fun k=>?_) h4
    rw[ref02_round_h0.eq_2,zax (by omega)]
    rfl
theorem zqh (s:Vector UInt32 8) (b:List UInt8) (kt:Vector UInt32 64) (hb:64≤b.length):∃ k,ref02_round k s b kt=some (zc3 kt s (fun i=>List.getD b i 0)):=by
  rw[zfW]; exact zqS s b kt hb
end
end Go.Proofs.YtnolgfdjcipmmaaDoor.M
namespace Go.Proofs.YtnolgfdjcipmmaaDoor.M
open Go
noncomputable section
def ref02_hSum_h2:Nat→Int→(Vector UInt8 32)→(Vector UInt32 8)→(Vector UInt8 32)→Option (Vector UInt8 32)
  | 0,_,_,_,_=>none
  | k+1,i,t4,s,out=>bif decide (i < (32:Int)) then(if((0:Int)≤(w64 (Int.tdiv i (4:Int))))∧((w64 (Int.tdiv i (4:Int))) < (8:Int)) then
        if((0:Int)≤i)∧(i < (32:Int)) then
          ref02_hSum_h2 k (w64 (i+(1:Int))) t4 s (Vector.setIfInBounds out (Int.toNat i) (UInt32.toUInt8 (zaE (List.getD (Vector.toList s) (Int.toNat (w64 (Int.tdiv i (4:Int)))) (0:UInt32)) (UInt64.toNat (UInt64.ofInt (w64 ((24:Int) - (w64 ((8:Int)*(Int.tmod i (4:Int)))))))))))
        else none
      else none)
      else(some out)
def ref02_hSum_h0:Nat→(Vector UInt32 8)→(Vector UInt32 64)→Int→(Vector UInt8 32)→(List UInt8)→(Vector UInt32 8)→Option (Vector UInt8 32)
  | 0,_,_,_,_,_,_=>none
  | k+1,h_,h1,i,t4,p,s=>bif decide (i < (((List.length p):Nat):Int)) then(if((0:Int)≤i)∧((i≤(w64 (i+(64:Int))))∧((w64 (i+(64:Int)))≤(((List.length p):Nat):Int))) then
        if(64:Nat)≤(List.length (List.take ((Int.toNat (w64 (i+(64:Int)))) - (Int.toNat i)) (List.drop (Int.toNat i) p))) then
          ref02_hSum_h0 k h_ h1 (w64 (i+(64:Int))) t4 p (zc3 h1 s (fun(z7:Nat)=>(List.getD (List.take ((Int.toNat (w64 (i+(64:Int)))) - (Int.toNat i)) (List.drop (Int.toNat i) p)) z7 (0:UInt8))))
        else none
      else none)
      else(ref02_hSum_h2 k (0:Int) t4 s (Vector.replicate 32 (0:UInt8)))
def ref02_hSum (k:Nat) (h_0_begin:Vector UInt32 8) (h_0_k:Vector UInt32 64) (b:List UInt8):Option (Vector UInt8 32) :=
  if(List.length b)≤(1099511627776:Nat) then
    ref02_hSum_h0 k h_0_begin h_0_k (0:Int) (Vector.replicate 32 (0:UInt8)) (zbD b) h_0_begin
  else none
theorem zv5 (s:Vector UInt32 8) (t4 out:Vector UInt8 32):Ev (fun k=>ref02_hSum_h2 k 0 t4 s out) (zt3 s):=by
  refine Ev.up (H:=fun k i out=>ref02_hSum_h2 k i t4 s out) (lo:=0) (n:=32) (step:=fun i out=>Vector.setIfInBounds out i (zlX s i)) ?_ 32 0 out (Nat.le_refl 0) rfl ?_
  · intro i out _ hi e
    refine Ev.step (fun k=>?_) e
    have a1:Int.tdiv (i:Int) 4=((i / 4:Nat):Int):=rfl
    have a2:Int.tmod (i:Int) 4=((i % 4:Nat):Int):=rfl
    have a3:w64 (((i / 4:Nat):Int))=((i / 4:Nat):Int):=zao (by omega) (by omega)
    have a4:w64 (8*((i % 4:Nat):Int))=((8*(i % 4):Nat):Int):=by rw[zao (by omega) (by omega)]; omega
    have a5:w64 (24 - ((8*(i % 4):Nat):Int))=((24 - 8*(i % 4):Nat):Int):=by rw[zao (by omega) (by omega)]; omega
    have a6:(UInt64.ofInt ((24 - 8*(i % 4):Nat):Int)).toNat=24 - 8*(i % 4):=by
      have:i % 4=0∨i % 4=1∨i % 4=2∨i % 4=3:=by omega
      rcases this with h | h | h | h<;>rw[h]<;>rfl
    rw[ref02_hSum_h2.eq_2,zav (by omega),a1,a2,a3,a4,a5,a6,if_pos (by omega),if_pos (by omega),zao (by omega) (by omega)]
    rfl
  · refine Ev.done fun k=>?_
    rw[ref02_hSum_h2.eq_2,zax (by omega),zAU (fun i=>zlX s i)]
    rfl
theorem zrq (hb:Vector UInt32 8) (hk:Vector UInt32 64) (b:List UInt8) (hp:b.length≤1099511627776∧hb=zb4∧hk=shaK):∃ k,ref02_hSum k hb hk b=some (zaQ b):=by
  obtain ⟨h1,rfl,rfl⟩:=hp
  show Ev (fun k=>ref02_hSum k zb4 shaK b) _
  refine Ev.same (fun k=>by rw[ref02_hSum.eq_1,if_pos h1]) ?_
  obtain ⟨p1,p2,p3⟩:=zuZ b
  have gen:∀ n s,n*64≤(zbD b).length→s=ziQ (zbD b) n→Ev (fun k=>ref02_hSum_h0 k zb4 shaK ((64*n:Nat):Int) (Vector.replicate 32 0) (zbD b) s) (zaQ b):=by
    intro n s hn hs
    generalize hm:(zbD b).length / 64 - n=m
    induction m generalizing n s with
    | zero =>
      have h1:n=(zbD b).length / 64:=by omega
      have h2:zaQ b=zt3 s:=by rw[zeP,←h1,←hs]
      rw[h2]
      refine Ev.step (fun k=>?_) (zv5 s (Vector.replicate 32 0) (Vector.replicate 32 0))
      rw[ref02_hSum_h0.eq_2,zax (by omega)]
    | succ m ih =>
      refine Ev.step (fun k=>?_) (ih (n+1) (ziQ (zbD b) (n+1)) (by omega) rfl (by omega))
      have a1:w64 (((64*n:Nat):Int)+64)=((64*(n+1):Nat):Int):=by rw[zao (by omega) (by omega)]; omega
      rw[ref02_hSum_h0.eq_2,zav (by omega),a1,if_pos (by omega)]
      subst hs
      simp only[Int.toNat_natCast]
      rw[if_pos (by simp; omega)]
      refine congrArg (fun y=>ref02_hSum_h0 k zb4 shaK ((64*(n+1):Nat):Int) (Vector.replicate 32 0) (zbD b) y) ?_
      refine zlC fun j hj=>?_
      have:j < 64*(n+1) - 64*n:=by omega
      simp only[List.getD,List.getElem?_take,if_pos this,List.getElem?_drop]
  exact gen 0 _ (by omega) rfl
end
end Go.Proofs.YtnolgfdjcipmmaaDoor.M
namespace Go.Proofs.YtnolgfdjcipmmaaDoor.M
open Go
noncomputable section
def ref02_hTwice (h_0_begin:Vector UInt32 8) (h_0_k:Vector UInt32 64) (b:List UInt8):Option (Vector UInt8 32) :=
  if(
      (List.length b)≤(1099511627776:Nat))∧((h_0_begin=zb4)∧(h_0_k=shaK)) then
    if((List.length (Vector.toList (zaQ b)))≤(1099511627776:Nat))∧((h_0_begin=zb4)∧(h_0_k=shaK)) then
      some (zaQ (Vector.toList (zaQ b)))
    else none
  else none
theorem zoH (hb:Vector UInt32 8) (hk:Vector UInt32 64) (b:List UInt8) (hp:b.length≤1099511627776∧hb=zb4∧hk=shaK):ref02_hTwice hb hk b=some (zaQ (Vector.toList (zaQ b))):=by
  rw[ref02_hTwice.eq_1,if_pos hp,if_pos ⟨by simp,hp.2⟩]
end
end Go.Proofs.YtnolgfdjcipmmaaDoor.M
namespace Go.Proofs.YtnolgfdjcipmmaaDoor.M
open Go
noncomputable section
def ref02_Twice (b:List UInt8):Option (Vector UInt8 32) :=
  if((List.length b)≤(1099511627776:Nat))∧((zb4=zb4)∧(shaK=shaK)) then
    some (zaQ (Vector.toList (zaQ b)))
  else none
theorem zql (b:List UInt8) (hp:b.length≤1099511627776):ref02_Twice b=some (zaQ (Vector.toList (zaQ b))):=by
  rw[ref02_Twice,if_pos ⟨hp,rfl,rfl⟩]
end
end Go.Proofs.YtnolgfdjcipmmaaDoor.M
namespace Go.Proofs.YtnolgfdjcipmmaaDoor.M
open Go
noncomputable section
set_option maxRecDepth 100000
set_option maxHeartbeats 0
noncomputable def zjW:Tbl:=[]
noncomputable def zbC:CfgW:=mkC Tryd.prog theG zjW 16 0 false
def zcc:Nat→List Nat:=fun i=>bif Nat.beq i 0 then [1,3,4]else []
noncomputable abbrev zcF:Code:=Tryd.f70.body.getD .skip
noncomputable abbrev zdp:List ResultVar:=Tryd.f70.results.toList
def zce:List Nat:=[]
def zcS (r:List UInt8):CallOut:=⟨.o 60000,[(60000,.row (.s .u8 r) false)],true,[]⟩
def zfg (i:Int) (h_:Vector UInt8 32) (out:List UInt8):St:=⟨[(1,.p 60000 []),(3,.o 60001),(4,.pv (.sc .i i))],[(60000,.box (.pv (.arr .u8 32 h_))),(60001,.row (.s .u8 out) false)]⟩
theorem zvU (i:Int) (h_:Vector UInt8 32) (out:List UInt8) (Q:CallOut→Prop):zaB zbC zcc [true,true,false,true,false] zcF (zfg i h_ out) (fnK zbC zdp zce Q) =
    (zal (decide (i < (32:Int))) ((((0:Int)≤i)∧(i < (32:Int)))∧(((((List.length (out++([(List.getD (Vector.toList h_) (Int.toNat i) (0:UInt8))]:List UInt8)))*(1:Nat))≤(70368744177664:Nat))∧((List.length (out++([(List.getD (Vector.toList h_) (Int.toNat i) (0:UInt8))]:List UInt8)))≤(70368744177664:Nat)))∧(zat zbC zcc [true,true,false,true,false] zcF (zfg (w64 (i+(1:Int))) h_ (out++([(List.getD (Vector.toList h_) (Int.toNat i) (0:UInt8))]:List UInt8))) (fnK zbC zdp zce Q)))) (Q (zcS out))):=by kernel_rfl
theorem znr {r:List UInt8} {Q:CallOut→Prop} (hQ:Q (zcS r)):∀ k:Nat,(∀ (i:Int) (h_:Vector UInt8 32) (out:List UInt8),ref02_List_h0 k i h_ out=some r→zat zbC zcc [true,true,false,true,false] zcF (zfg i h_ out) (fnK zbC zdp zce Q))
  | 0=>fun _ _ _ h=>zcN h
  | k+1=>fun i h_ out h=>zau (Eq.mpr (zvU i h_ out Q) (have h:=(ref02_List_h0.eq_2 i h_ out k).symm.trans h; zae h (fun h=>zad h fun hc0 h=>zad h fun hc1 h=>(znr hQ k) _ _ _ h) (fun h=>zam (Q:=Q) (e:=zcS) h hQ)))
theorem zyy (h_0:Vector UInt8 32) (Q:CallOut→Prop):zab zbC zcc zdp zce zcF [.pv (.arr .u8 32 h_0)] [] Q =
    (zat zbC zcc [true,true,false,true,false] zcF (zfg (0:Int) h_0 ([]:List UInt8)) (fnK zbC zdp zce Q)):=by kernel_rfl
theorem zzd {k:Nat} (h_0:Vector UInt8 32) {r} {Q:CallOut→Prop} (h:ref02_List k h_0=some r) (hQ:Q (zcS r)):zab zbC zcc zdp zce zcF [.pv (.arr .u8 32 h_0)] [] Q :=
  Eq.mpr (zyy h_0 Q) (have h:=(ref02_List.eq_1 k h_0).symm.trans h; (znr hQ _) _ _ _ h)
def zeM:Ans
  | [.pv (.arr .u8 32 h_0)],[]=>some (none,zcS (Vector.toList h_0))
  | _,_=>none
theorem ztd:TblOK Tryd.prog theG zjW:=.nil
theorem znS:FnOK Tryd.prog theG 70 (unW zeM):=by
  refine FnOK.ofC (T:=zjW) (nt:=16) (np:=0) (mv:=[]) (nf:=false) (hs:=zce) (fn:=Tryd.f70) (body:=zcF) ztd (by kernel_rfl) (by kernel_rfl) (by kernel_rfl) (by kernel_rfl) (c:=zeM) (lv:=zcc) ?_
  intro xs mem p out h hp
  unfold zeM at h
  split at h
  · cases h
    obtain ⟨k,hk⟩:=zrJ _
    exact zzd _ hk rfl
  · cases h
end
end Go.Proofs.YtnolgfdjcipmmaaDoor.M
namespace Go.Proofs.YtnolgfdjcipmmaaDoor.M
open Go
noncomputable section
set_option maxRecDepth 100000
set_option maxHeartbeats 0
noncomputable def zl8:Tbl:=[]
noncomputable def zqN:CfgW:=mkC Tryd.prog theG zl8 5 0 false
def zjT:Nat→List Nat:=fun i=>[]
noncomputable abbrev zmw:Code:=Tryd.f68.body.getD .skip
noncomputable abbrev zrk:List ResultVar:=Tryd.f68.results.toList
def zka:List Nat:=[]
def zdr (r:Vector UInt32 8 × Vector UInt32 64):CallOut:=⟨.p 60000 [],[(60000,.box (.pv (.st [.arr .u32 8 r.1,.arr .u32 64 r.2])))],true,[]⟩
theorem zAw  (Q:CallOut→Prop):zab zqN zjT zrk zka zmw [] [] Q =
    (Q (zdr ((Vector.setIfInBounds (Vector.setIfInBounds (Vector.setIfInBounds (Vector.setIfInBounds (Vector.setIfInBounds (Vector.setIfInBounds (Vector.setIfInBounds (Vector.setIfInBounds (Vector.replicate 8 (0:UInt32)) (0:Nat) (1779033703:UInt32)) (1:Nat) (3144134277:UInt32)) (2:Nat) (1013904242:UInt32)) (3:Nat) (2773480762:UInt32)) (4:Nat) (1359893119:UInt32)) (5:Nat) (2600822924:UInt32)) (6:Nat) (528734635:UInt32)) (7:Nat) (1541459225:UInt32)),(Vector.setIfInBounds (Vector.setIfInBounds (Vector.setIfInBounds (Vector.setIfInBounds (Vector.setIfInBounds (Vector.setIfInBounds (Vector.setIfInBounds (Vector.setIfInBounds (Vector.setIfInBounds (Vector.setIfInBounds (Vector.setIfInBounds (Vector.setIfInBounds (Vector.setIfInBounds (Vector.setIfInBounds (Vector.setIfInBounds (Vector.setIfInBounds (Vector.setIfInBounds (Vector.setIfInBounds (Vector.setIfInBounds (Vector.setIfInBounds (Vector.setIfInBounds (Vector.setIfInBounds (Vector.setIfInBounds (Vector.setIfInBounds (Vector.setIfInBounds (Vector.setIfInBounds (Vector.setIfInBounds (Vector.setIfInBounds (Vector.setIfInBounds (Vector.setIfInBounds (Vector.setIfInBounds (Vector.setIfInBounds (Vector.setIfInBounds (Vector.setIfInBounds (Vector.setIfInBounds (Vector.setIfInBounds (Vector.setIfInBounds (Vector.setIfInBounds (Vector.setIfInBounds (Vector.setIfInBounds (Vector.setIfInBounds (Vector.setIfInBounds (Vector.setIfInBounds (Vector.setIfInBounds (Vector.setIfInBounds (Vector.setIfInBounds (Vector.setIfInBounds (Vector.setIfInBounds (Vector.setIfInBounds (Vector.setIfInBounds (Vector.setIfInBounds (Vector.setIfInBounds (Vector.setIfInBounds (Vector.setIfInBounds (Vector.setIfInBounds (Vector.setIfInBounds (Vector.setIfInBounds (Vector.setIfInBounds (Vector.setIfInBounds (Vector.setIfInBounds (Vector.setIfInBounds (Vector.setIfInBounds (Vector.setIfInBounds (Vector.setIfInBounds (Vector.replicate 64 (0:UInt32)) (0:Nat) (1116352408:UInt32)) (1:Nat) (1899447441:UInt32)) (2:Nat) (3049323471:UInt32)) (3:Nat) (3921009573:UInt32)) (4:Nat) (961987163:UInt32)) (5:Nat) (1508970993:UInt32)) (6:Nat) (2453635748:UInt32)) (7:Nat) (2870763221:UInt32)) (8:Nat) (3624381080:UInt32)) (9:Nat) (310598401:UInt32)) (10:Nat) (607225278:UInt32)) (11:Nat) (1426881987:UInt32)) (12:Nat) (1925078388:UInt32)) (13:Nat) (2162078206:UInt32)) (14:Nat) (2614888103:UInt32)) (15:Nat) (3248222580:UInt32)) (16:Nat) (3835390401:UInt32)) (17:Nat) (4022224774:UInt32)) (18:Nat) (264347078:UInt32)) (19:Nat) (604807628:UInt32)) (20:Nat) (770255983:UInt32)) (21:Nat) (1249150122:UInt32)) (22:Nat) (1555081692:UInt32)) (23:Nat) (1996064986:UInt32)) (24:Nat) (2554220882:UInt32)) (25:Nat) (2821834349:UInt32)) (26:Nat) (2952996808:UInt32)) (27:Nat) (3210313671:UInt32)) (28:Nat) (3336571891:UInt32)) (29:Nat) (3584528711:UInt32)) (30:Nat) (113926993:UInt32)) (31:Nat) (338241895:UInt32)) (32:Nat) (666307205:UInt32)) (33:Nat) (773529912:UInt32)) (34:Nat) (1294757372:UInt32)) (35:Nat) (1396182291:UInt32)) (36:Nat) (1695183700:UInt32)) (37:Nat) (1986661051:UInt32)) (38:Nat) (2177026350:UInt32)) (39:Nat) (2456956037:UInt32)) (40:Nat) (2730485921:UInt32)) (41:Nat) (2820302411:UInt32)) (42:Nat) (3259730800:UInt32)) (43:Nat) (3345764771:UInt32)) (44:Nat) (3516065817:UInt32)) (45:Nat) (3600352804:UInt32)) (46:Nat) (4094571909:UInt32)) (47:Nat) (275423344:UInt32)) (48:Nat) (430227734:UInt32)) (49:Nat) (506948616:UInt32)) (50:Nat) (659060556:UInt32)) (51:Nat) (883997877:UInt32)) (52:Nat) (958139571:UInt32)) (53:Nat) (1322822218:UInt32)) (54:Nat) (1537002063:UInt32)) (55:Nat) (1747873779:UInt32)) (56:Nat) (1955562222:UInt32)) (57:Nat) (2024104815:UInt32)) (58:Nat) (2227730452:UInt32)) (59:Nat) (2361852424:UInt32)) (60:Nat) (2428436474:UInt32)) (61:Nat) (2756734187:UInt32)) (62:Nat) (3204031479:UInt32)) (63:Nat) (3329325298:UInt32))))):=by kernel_rfl
theorem zA5  {Q:CallOut→Prop} (h:Q (zdr (ref02_New ))):zab zqN zjT zrk zka zmw [] [] Q :=
  Eq.mpr (zAw  Q) (have h:=Eq.mp (congrArg (fun r=>Q (zdr r)) (ref02_New.eq_1 )) h; h)
def zis:Ans
  | [],[]=>some (none,zdr ((zb4,shaK)))
  | _,_=>none
theorem zwB:TblOK Tryd.prog theG zl8:=.nil
theorem zyZ:FnOK Tryd.prog theG 68 (unW zis):=by
  refine FnOK.ofC (T:=zl8) (nt:=5) (np:=0) (mv:=[]) (nf:=false) (hs:=zka) (fn:=Tryd.f68) (body:=zmw) zwB (by kernel_rfl) (by kernel_rfl) (by kernel_rfl) (by kernel_rfl) (c:=zis) (lv:=zjT) ?_
  intro xs mem p out h hp
  unfold zis at h
  split at h
  · cases h
    exact zA5  (congrArg zdr (ztT))
  · cases h
end
end Go.Proofs.YtnolgfdjcipmmaaDoor.M
namespace Go.Proofs.YtnolgfdjcipmmaaDoor.M
open Go
noncomputable section
set_option maxRecDepth 100000
set_option maxHeartbeats 0
noncomputable def zgT:Tbl:=[]
noncomputable def zaA:CfgW:=mkC Tryd.prog theG zgT 38 0 false
def zaV:Nat→List Nat:=fun i=>bif Nat.beq i 2 then [3,4,5]else bif Nat.beq i 0 then [0,3]else []
noncomputable abbrev za2:Code:=Tryd.f89.body.getD .skip
noncomputable abbrev za8:List ResultVar:=Tryd.f89.results.toList
def zaW:List Nat:=[]
def zbK (r:List UInt8):CallOut:=⟨.o 60000,[(60000,.row (.s .u8 r) false)],true,[]⟩
def zds (b:List UInt8) (out:List UInt8):St:=⟨[(0,.pv (.sl .u8 b)),(3,.o 60000)],[(60000,.row (.s .u8 out) false)]⟩
def zdA (n:UInt64) (i:Int) (out:List UInt8):St:=⟨[(3,.o 60000),(4,.pv (.sc .u64 n)),(5,.pv (.sc .i i))],[(60000,.row (.s .u8 out) false)]⟩
theorem zsh (b:List UInt8) (out:List UInt8) (Q:CallOut→Prop):zaB zaA zaV [true,true,true,true,false,false] za2 (zds b out) (fnK zaA za8 zaW Q) =
    (((64:Int)≠(0:Int))∧(zal (!(decide ((Int.tmod (((List.length out):Nat):Int) (64:Int))=(56:Int)))) (((((List.length (out++([(0:UInt8)]:List UInt8)))*(1:Nat))≤(70368744177664:Nat))∧((List.length (out++([(0:UInt8)]:List UInt8)))≤(70368744177664:Nat)))∧(zat zaA zaV [true,true,true,true,false,false] za2 (zds b (out++([(0:UInt8)]:List UInt8))) (fnK zaA za8 zaW Q))) (zat zaA zaV [true,true,true,true,true,true,false,true,false] za2 (zdA ((8:UInt64)*(UInt64.ofInt (((List.length b):Nat):Int))) (0:Int) out) (fnK zaA za8 zaW Q)))):=by kernel_rfl
theorem zqF (n:UInt64) (i:Int) (out:List UInt8) (Q:CallOut→Prop):zaB zaA zaV [true,true,true,true,true,true,false,true,false] za2 (zdA n i out) (fnK zaA za8 zaW Q) =
    (zal (decide (i < (8:Int))) (((((List.length (out++([(UInt64.toUInt8 (zaa n (UInt64.toNat (UInt64.ofInt (w64 ((56:Int) - (w64 ((8:Int)*i))))))))]:List UInt8)))*(1:Nat))≤(70368744177664:Nat))∧((List.length (out++([(UInt64.toUInt8 (zaa n (UInt64.toNat (UInt64.ofInt (w64 ((56:Int) - (w64 ((8:Int)*i))))))))]:List UInt8)))≤(70368744177664:Nat)))∧(zat zaA zaV [true,true,true,true,true,true,false,true,false] za2 (zdA n (w64 (i+(1:Int))) (out++([(UInt64.toUInt8 (zaa n (UInt64.toNat (UInt64.ofInt (w64 ((56:Int) - (w64 ((8:Int)*i))))))))]:List UInt8))) (fnK zaA za8 zaW Q))) (Q (zbK out))):=by kernel_rfl
theorem zkK {r:List UInt8} {Q:CallOut→Prop} (hQ:Q (zbK r)):∀ k:Nat,(∀ (n:UInt64) (i:Int) (out:List UInt8),ref02_Padded_h2 k n i out=some r→zat zaA zaV [true,true,true,true,true,true,false,true,false] za2 (zdA n i out) (fnK zaA za8 zaW Q))
  | 0=>fun _ _ _ h=>zcN h
  | k+1=>fun n i out h=>zau (Eq.mpr (zqF n i out Q) (have h:=(ref02_Padded_h2.eq_2 n i out k).symm.trans h; zae h (fun h=>zad h fun hc0 h=>(zkK hQ k) _ _ _ h) (fun h=>zam (Q:=Q) (e:=zbK) h hQ)))
theorem zjZ {r:List UInt8} {Q:CallOut→Prop} (hQ:Q (zbK r)):∀ k:Nat,(∀ (b:List UInt8) (out:List UInt8),ref02_Padded_h0 k b out=some r→zat zaA zaV [true,true,true,true,false,false] za2 (zds b out) (fnK zaA za8 zaW Q))
  | 0=>fun _ _ h=>zcN h
  | k+1=>fun b out h=>zau (Eq.mpr (zsh b out Q) (have h:=(ref02_Padded_h0.eq_2 b out k).symm.trans h; ⟨by decide +kernel,zae h (fun h=>zad h fun hc0 h=>(zjZ hQ k) _ _ h) (fun h=>(zkK hQ _) _ _ _ h)⟩))
theorem zto (b:List UInt8) (Q:CallOut→Prop):zab zaA zaV za8 zaW za2 [.pv (.sl .u8 b)] [] Q =
    (((((List.length (([]:List UInt8)++b))*(1:Nat))≤(70368744177664:Nat))∧((List.length (([]:List UInt8)++b))≤(70368744177664:Nat)))∧(((((List.length ((([]:List UInt8)++b)++([(128:UInt8)]:List UInt8)))*(1:Nat))≤(70368744177664:Nat))∧((List.length ((([]:List UInt8)++b)++([(128:UInt8)]:List UInt8)))≤(70368744177664:Nat)))∧(zat zaA zaV [true,true,true,true,false,false] za2 (zds b ((([]:List UInt8)++b)++([(128:UInt8)]:List UInt8))) (fnK zaA za8 zaW Q)))):=by kernel_rfl
theorem ztB {k:Nat} (b:List UInt8) {r} {Q:CallOut→Prop} (h:ref02_Padded k b=some r) (hQ:Q (zbK r)):zab zaA zaV za8 zaW za2 [.pv (.sl .u8 b)] [] Q :=
  Eq.mpr (zto b Q) (have h:=(ref02_Padded.eq_1 k b).symm.trans h; zad h fun hc0 h=>zad h fun hc1 h=>(zjZ hQ _) _ _ h)
def zev:Ans
  | [.pv (.sl .u8 b)],[]=>some (some (b.length≤1099511627776),zbK (zbD b))
  | _,_=>none
theorem zqi:TblOK Tryd.prog theG zgT:=.nil
theorem zro:FnOK Tryd.prog theG 89 (unW zev):=by
  refine FnOK.ofC (T:=zgT) (nt:=38) (np:=0) (mv:=[]) (nf:=false) (hs:=zaW) (fn:=Tryd.f89) (body:=za2) zqi (by kernel_rfl) (by kernel_rfl) (by kernel_rfl) (by kernel_rfl) (c:=zev) (lv:=zaV) ?_
  intro xs mem p out h hp
  unfold zev at h
  split at h
  · cases h
    obtain ⟨k,hk⟩:=zom _ hp
    exact ztB _ hk rfl
  · cases h
end
end Go.Proofs.YtnolgfdjcipmmaaDoor.M
namespace Go.Proofs.YtnolgfdjcipmmaaDoor.M
open Go
noncomputable section
set_option maxRecDepth 100000
set_option maxHeartbeats 0
noncomputable def zkI:Tbl:=[]
noncomputable def zpI:CfgW:=mkC Tryd.prog theG zkI 13 0 false
def ziX:Nat→List Nat:=fun i=>[]
noncomputable abbrev zj5:Code:=Tryd.f93.body.getD .skip
noncomputable abbrev zo2:List ResultVar:=Tryd.f93.results.toList
def ziA:List Nat:=[]
def zeu (r:UInt32):CallOut:=⟨.pv (.sc .u32 r),[],true,[]⟩
theorem zzt (x_0:UInt32) (n:UInt64) (Q:CallOut→Prop):zab zpI ziX zo2 ziA zj5 [.pv (.sc .u32 x_0),.pv (.sc .u64 n)] [] Q =
    (Q (zeu ((zaE x_0 (UInt64.toNat n)) ||| (zbA x_0 (UInt64.toNat ((32:UInt64) - n)))))):=by kernel_rfl
theorem zzC (x_0:UInt32) (n:UInt64) {Q:CallOut→Prop} (h:Q (zeu (ref02_turn x_0 n))):zab zpI ziX zo2 ziA zj5 [.pv (.sc .u32 x_0),.pv (.sc .u64 n)] [] Q :=
  Eq.mpr (zzt x_0 n Q) (have h:=Eq.mp (congrArg (fun r=>Q (zeu r)) (ref02_turn.eq_1 x_0 n)) h; h)
def zgu:Ans
  | [.pv (.sc .u32 x_0),.pv (.sc .u64 n)],[]=>some (none,zeu (ref02_turn x_0 n))
  | _,_=>none
theorem zsS:TblOK Tryd.prog theG zkI:=.nil
theorem zwv:FnOK Tryd.prog theG 93 (unW zgu):=by
  refine FnOK.ofC (T:=zkI) (nt:=13) (np:=0) (mv:=[]) (nf:=false) (hs:=ziA) (fn:=Tryd.f93) (body:=zj5) zsS (by kernel_rfl) (by kernel_rfl) (by kernel_rfl) (by kernel_rfl) (c:=zgu) (lv:=ziX) ?_
  intro xs mem p out h hp
  unfold zgu at h
  split at h
  · cases h
    exact zzC _ _ rfl
  · cases h
end
end Go.Proofs.YtnolgfdjcipmmaaDoor.M
namespace Go.Proofs.YtnolgfdjcipmmaaDoor.M
open Go
noncomputable section
set_option maxRecDepth 100000
set_option maxHeartbeats 0
noncomputable def ziq:Tbl:=[(93,[],zgu)]
noncomputable def zac:CfgW:=mkC Tryd.prog theG ziq 181 0 false
def zag:Nat→List Nat:=fun i=>bif Nat.beq i 10 then [3,6,13,20]else bif Nat.beq i 8 then [3,5,6,7,13,14,17,18,19]else bif Nat.beq i 6 then [3,5,6,7,13,14]else bif Nat.beq i 4 then [3,5,6,7,10]else bif Nat.beq i 2 then [1,3,5,6,7,8,9]else bif Nat.beq i 0 then [1,3,5,6,7,8]else []
noncomputable abbrev zak:Code:=Tryd.f90.body.getD .skip
noncomputable abbrev zan:List ResultVar:=Tryd.f90.results.toList
def zaf:List Nat:=[]
def zbq (r:Vector UInt32 8):CallOut:=⟨.pv (.arr .u32 8 r),[],true,[]⟩
def zej (b:List UInt8) (i:Int) (s:Vector UInt32 8) (k_:Vector UInt32 64) (t6:Vector UInt32 8) (w:Vector UInt32 64):St:=⟨[(1,.pv (.sl .u8 b)),(3,.p 60000 []),(5,.p 60001 []),(6,.p 60002 []),(7,.p 60003 []),(8,.pv (.sc .i i))],[(60000,.box (.pv (.arr .u32 8 s))),(60001,.box (.pv (.arr .u32 64 k_))),(60002,.box (.pv (.arr .u32 8 t6))),(60003,.box (.pv (.arr .u32 64 w)))]⟩
def zeA (b:List UInt8) (i:Int) (j:Int) (s:Vector UInt32 8) (k_:Vector UInt32 64) (t6:Vector UInt32 8) (w:Vector UInt32 64):St:=⟨[(1,.pv (.sl .u8 b)),(3,.p 60000 []),(5,.p 60001 []),(6,.p 60002 []),(7,.p 60003 []),(8,.pv (.sc .i i)),(9,.pv (.sc .i j))],[(60000,.box (.pv (.arr .u32 8 s))),(60001,.box (.pv (.arr .u32 64 k_))),(60002,.box (.pv (.arr .u32 8 t6))),(60003,.box (.pv (.arr .u32 64 w)))]⟩
def zeD (i:Int) (s:Vector UInt32 8) (k_:Vector UInt32 64) (t6:Vector UInt32 8) (w:Vector UInt32 64):St:=⟨[(3,.p 60000 []),(5,.p 60001 []),(6,.p 60002 []),(7,.p 60003 []),(10,.pv (.sc .i i))],[(60000,.box (.pv (.arr .u32 8 s))),(60001,.box (.pv (.arr .u32 64 k_))),(60002,.box (.pv (.arr .u32 8 t6))),(60003,.box (.pv (.arr .u32 64 w)))]⟩
def zer (i:Int) (s:Vector UInt32 8) (k_:Vector UInt32 64) (t6:Vector UInt32 8) (w:Vector UInt32 64) (v:Vector UInt32 8):St:=⟨[(3,.p 60000 []),(5,.p 60001 []),(6,.p 60002 []),(7,.p 60003 []),(13,.p 60004 []),(14,.pv (.sc .i i))],[(60000,.box (.pv (.arr .u32 8 s))),(60001,.box (.pv (.arr .u32 64 k_))),(60002,.box (.pv (.arr .u32 8 t6))),(60003,.box (.pv (.arr .u32 64 w))),(60004,.box (.pv (.arr .u32 8 v)))]⟩
def zeG (i:Int) (t:UInt32) (u:UInt32) (j:Int) (s:Vector UInt32 8) (k_:Vector UInt32 64) (t6:Vector UInt32 8) (w:Vector UInt32 64) (v:Vector UInt32 8):St:=⟨[(3,.p 60000 []),(5,.p 60001 []),(6,.p 60002 []),(7,.p 60003 []),(13,.p 60004 []),(14,.pv (.sc .i i)),(17,.pv (.sc .u32 t)),(18,.pv (.sc .u32 u)),(19,.pv (.sc .i j))],[(60000,.box (.pv (.arr .u32 8 s))),(60001,.box (.pv (.arr .u32 64 k_))),(60002,.box (.pv (.arr .u32 8 t6))),(60003,.box (.pv (.arr .u32 64 w))),(60004,.box (.pv (.arr .u32 8 v)))]⟩
def zdF (i:Int) (s:Vector UInt32 8) (t6:Vector UInt32 8) (v:Vector UInt32 8):St:=⟨[(3,.p 60000 []),(6,.p 60001 []),(13,.p 60002 []),(20,.pv (.sc .i i))],[(60000,.box (.pv (.arr .u32 8 s))),(60001,.box (.pv (.arr .u32 8 t6))),(60002,.box (.pv (.arr .u32 8 v)))]⟩
theorem zs8 (b:List UInt8) (i:Int) (s:Vector UInt32 8) (k_:Vector UInt32 64) (t6:Vector UInt32 8) (w:Vector UInt32 64) (Q:CallOut→Prop):zaB zac zag [true,true,false,true,false] zak (zej b i s k_ t6 w) (fnK zac zan zaf Q) =
    (zal (decide (i < (16:Int))) (zat zac zag [true,true,false,true,false,false,true,false,false,true,false] zak (zeA b i (0:Int) s k_ t6 w) (fnK zac zan zaf Q)) (zat zac zag [true,true,true,false,true,false] zak (zeD (16:Int) s k_ t6 w) (fnK zac zan zaf Q))):=by kernel_rfl
theorem ztQ (b:List UInt8) (i:Int) (j:Int) (s:Vector UInt32 8) (k_:Vector UInt32 64) (t6:Vector UInt32 8) (w:Vector UInt32 64) (Q:CallOut→Prop):zaB zac zag [true,true,false,true,false,false,true,false,false,true,false] zak (zeA b i j s k_ t6 w) (fnK zac zan zaf Q) =
    (zal (decide (j < (4:Int))) ((((0:Int)≤i)∧(i < (64:Int)))∧((((0:Int)≤(w64 ((w64 ((4:Int)*i))+j)))∧((w64 ((w64 ((4:Int)*i))+j)) < (((List.length b):Nat):Int)))∧((((0:Int)≤i)∧(i < (64:Int)))∧(zat zac zag [true,true,false,true,false,false,true,false,false,true,false] zak (zeA b i (w64 (j+(1:Int))) s k_ t6 (Vector.setIfInBounds w (Int.toNat i) (((256:UInt32)*(List.getD (Vector.toList w) (Int.toNat i) (0:UInt32)))+(UInt8.toUInt32 (List.getD b (Int.toNat (w64 ((w64 ((4:Int)*i))+j))) (0:UInt8)))))) (fnK zac zan zaf Q))))) (zat zac zag [true,true,false,true,false] zak (zej b (w64 (i+(1:Int))) s k_ t6 w) (fnK zac zan zaf Q))):=by kernel_rfl
theorem ztr (i:Int) (s:Vector UInt32 8) (k_:Vector UInt32 64) (t6:Vector UInt32 8) (w:Vector UInt32 64) (Q:CallOut→Prop):zaB zac zag [true,true,true,false,true,false] zak (zeD i s k_ t6 w) (fnK zac zan zaf Q) =
  (let s0:=(List.getD (Vector.toList w) (Int.toNat (w64 (i - (15:Int)))) (0:UInt32));let s1:=(List.getD (Vector.toList w) (Int.toNat (w64 (i - (2:Int)))) (0:UInt32));(zal (decide (i < (64:Int))) ((((0:Int)≤(w64 (i - (15:Int))))∧((w64 (i - (15:Int))) < (64:Int)))∧((((0:Int)≤(w64 (i - (2:Int))))∧((w64 (i - (2:Int))) < (64:Int)))∧((((0:Int)≤(w64 (i - (16:Int))))∧((w64 (i - (16:Int))) < (64:Int)))∧((((0:Int)≤(w64 (i - (7:Int))))∧((w64 (i - (7:Int))) < (64:Int)))∧((((0:Int)≤i)∧(i < (64:Int)))∧(zat zac zag [true,true,true,false,true,false] zak (zeD (w64 (i+(1:Int))) s k_ t6 (Vector.setIfInBounds w (Int.toNat i) ((((List.getD (Vector.toList w) (Int.toNat (w64 (i - (16:Int)))) (0:UInt32))+(((ref02_turn  s0  (7:UInt64)) ^^^ (ref02_turn  s0  (18:UInt64))) ^^^ (zaE  s0  (3:Nat))))+(List.getD (Vector.toList w) (Int.toNat (w64 (i - (7:Int)))) (0:UInt32)))+(((ref02_turn  s1  (17:UInt64)) ^^^ (ref02_turn  s1  (19:UInt64))) ^^^ (zaE  s1  (10:Nat)))))) (fnK zac zan zaf Q))))))) (zat zac zag [true,true,true,true,true,false,true,false] zak (zer (0:Int) s k_ t6 w s) (fnK zac zan zaf Q)))):=by kernel_rfl
theorem zsY (i:Int) (s:Vector UInt32 8) (k_:Vector UInt32 64) (t6:Vector UInt32 8) (w:Vector UInt32 64) (v:Vector UInt32 8) (Q:CallOut→Prop):zaB zac zag [true,true,true,true,true,false,true,false] zak (zer i s k_ t6 w v) (fnK zac zan zaf Q) =
    (zal (decide (i < (64:Int))) ((((0:Int)≤(0:Int))∧((0:Int) < (8:Int)))∧((((0:Int)≤(4:Int))∧((4:Int) < (8:Int)))∧((((0:Int)≤(7:Int))∧((7:Int) < (8:Int)))∧((((0:Int)≤(5:Int))∧((5:Int) < (8:Int)))∧((((0:Int)≤(6:Int))∧((6:Int) < (8:Int)))∧((((0:Int)≤i)∧(i < (64:Int)))∧((((0:Int)≤i)∧(i < (64:Int)))∧((((0:Int)≤(1:Int))∧((1:Int) < (8:Int)))∧((((0:Int)≤(2:Int))∧((2:Int) < (8:Int)))∧((((0:Int)≤(1:Int))∧((1:Int) < (8:Int)))∧((((0:Int)≤(2:Int))∧((2:Int) < (8:Int)))∧(zat zac zag [true,true,true,true,true,false,true,false,false,true,false,false,true,true,true,false,true,false] zak (zeG i (((((List.getD (Vector.toList v) (7:Nat) (0:UInt32))+(((ref02_turn (List.getD (Vector.toList v) (4:Nat) (0:UInt32)) (6:UInt64)) ^^^ (ref02_turn (List.getD (Vector.toList v) (4:Nat) (0:UInt32)) (11:UInt64))) ^^^ (ref02_turn (List.getD (Vector.toList v) (4:Nat) (0:UInt32)) (25:UInt64))))+(((List.getD (Vector.toList v) (4:Nat) (0:UInt32)) &&& (List.getD (Vector.toList v) (5:Nat) (0:UInt32))) ^^^ ((~~~(List.getD (Vector.toList v) (4:Nat) (0:UInt32))) &&& (List.getD (Vector.toList v) (6:Nat) (0:UInt32)))))+(List.getD (Vector.toList k_) (Int.toNat i) (0:UInt32)))+(List.getD (Vector.toList w) (Int.toNat i) (0:UInt32))) ((((ref02_turn (List.getD (Vector.toList v) (0:Nat) (0:UInt32)) (2:UInt64)) ^^^ (ref02_turn (List.getD (Vector.toList v) (0:Nat) (0:UInt32)) (13:UInt64))) ^^^ (ref02_turn (List.getD (Vector.toList v) (0:Nat) (0:UInt32)) (22:UInt64)))+((((List.getD (Vector.toList v) (0:Nat) (0:UInt32)) &&& (List.getD (Vector.toList v) (1:Nat) (0:UInt32))) ^^^ ((List.getD (Vector.toList v) (0:Nat) (0:UInt32)) &&& (List.getD (Vector.toList v) (2:Nat) (0:UInt32)))) ^^^ ((List.getD (Vector.toList v) (1:Nat) (0:UInt32)) &&& (List.getD (Vector.toList v) (2:Nat) (0:UInt32))))) (7:Int) s k_ t6 w v) (fnK zac zan zaf Q))))))))))))) (zat zac zag [true,true,true,true,true,true,false,true,false] zak (zdF (0:Int) s t6 v) (fnK zac zan zaf Q))):=by kernel_rfl
theorem ztl (i:Int) (t:UInt32) (u:UInt32) (j:Int) (s:Vector UInt32 8) (k_:Vector UInt32 64) (t6:Vector UInt32 8) (w:Vector UInt32 64) (v:Vector UInt32 8) (Q:CallOut→Prop):zaB zac zag [true,true,true,true,true,false,true,false,false,true,false,false,true,true,true,false,true,false] zak (zeG i t u j s k_ t6 w v) (fnK zac zan zaf Q) =
    (zal (decide ((0:Int) < j)) ((((0:Int)≤(w64 (j - (1:Int))))∧((w64 (j - (1:Int))) < (8:Int)))∧((((0:Int)≤j)∧(j < (8:Int)))∧(zat zac zag [true,true,true,true,true,false,true,false,false,true,false,false,true,true,true,false,true,false] zak (zeG i t u (w64 (j - (1:Int))) s k_ t6 w (Vector.setIfInBounds v (Int.toNat j) (List.getD (Vector.toList v) (Int.toNat (w64 (j - (1:Int)))) (0:UInt32)))) (fnK zac zan zaf Q)))) ((((0:Int)≤(4:Int))∧((4:Int) < (8:Int)))∧((((0:Int)≤(4:Int))∧((4:Int) < (8:Int)))∧((((0:Int)≤(0:Int))∧((0:Int) < (8:Int)))∧(zat zac zag [true,true,true,true,true,false,true,false] zak (zer (w64 (i+(1:Int))) s k_ t6 w (Vector.setIfInBounds (Vector.setIfInBounds v (4:Nat) ((List.getD (Vector.toList v) (4:Nat) (0:UInt32))+t)) (0:Nat) (t+u))) (fnK zac zan zaf Q)))))):=by kernel_rfl
theorem zsq (i:Int) (s:Vector UInt32 8) (t6:Vector UInt32 8) (v:Vector UInt32 8) (Q:CallOut→Prop):zaB zac zag [true,true,true,true,true,true,false,true,false] zak (zdF i s t6 v) (fnK zac zan zaf Q) =
    (zal (decide (i < (8:Int))) ((((0:Int)≤i)∧(i < (8:Int)))∧((((0:Int)≤i)∧(i < (8:Int)))∧((((0:Int)≤i)∧(i < (8:Int)))∧(zat zac zag [true,true,true,true,true,true,false,true,false] zak (zdF (w64 (i+(1:Int))) s t6 (Vector.setIfInBounds v (Int.toNat i) ((List.getD (Vector.toList v) (Int.toNat i) (0:UInt32))+(List.getD (Vector.toList s) (Int.toNat i) (0:UInt32))))) (fnK zac zan zaf Q))))) (Q (zbq v))):=by kernel_rfl
theorem zkg {r:Vector UInt32 8} {Q:CallOut→Prop} (hQ:Q (zbq r)):∀ k:Nat,(∀ (i:Int) (s:Vector UInt32 8) (t6:Vector UInt32 8) (v:Vector UInt32 8),ref02_round_h10 k i s t6 v=some r→zat zac zag [true,true,true,true,true,true,false,true,false] zak (zdF i s t6 v) (fnK zac zan zaf Q))
  | 0=>fun _ _ _ _ h=>zcN h
  | k+1=>fun i s t6 v h=>zau (Eq.mpr (zsq i s t6 v Q) (have h:=(ref02_round_h10.eq_2 i s t6 v k).symm.trans h; zae h (fun h=>zad h fun hc0 h=>⟨hc0,⟨hc0,(zkg hQ k) _ _ _ _ h⟩⟩) (fun h=>zam (Q:=Q) (e:=zbq) h hQ)))
theorem zeF {r:Vector UInt32 8} {Q:CallOut→Prop} (hQ:Q (zbq r)):∀ k:Nat,(∀ (i:Int) (s:Vector UInt32 8) (k_:Vector UInt32 64) (t6:Vector UInt32 8) (w:Vector UInt32 64) (v:Vector UInt32 8),ref02_round_h6 k i s k_ t6 w v=some r→zat zac zag [true,true,true,true,true,false,true,false] zak (zer i s k_ t6 w v) (fnK zac zan zaf Q))∧(∀ (i:Int) (t:UInt32) (u:UInt32) (j:Int) (s:Vector UInt32 8) (k_:Vector UInt32 64) (t6:Vector UInt32 8) (w:Vector UInt32 64) (v:Vector UInt32 8),ref02_round_h8 k i t u j s k_ t6 w v=some r→zat zac zag [true,true,true,true,true,false,true,false,false,true,false,false,true,true,true,false,true,false] zak (zeG i t u j s k_ t6 w v) (fnK zac zan zaf Q))
  | 0=>⟨fun _ _ _ _ _ _ h=>zcN h,fun _ _ _ _ _ _ _ _ _ h=>zcN h⟩
  | k+1=>⟨fun i s k_ t6 w v h=>zau (Eq.mpr (zsY i s k_ t6 w v Q) (have h:=(ref02_round_h6.eq_2 i s k_ t6 w v k).symm.trans h; zae h (fun h=>⟨by decide +kernel,⟨by decide +kernel,⟨by decide +kernel,⟨by decide +kernel,⟨by decide +kernel,zad h fun hc0 h=>⟨hc0,⟨by decide +kernel,⟨by decide +kernel,⟨by decide +kernel,⟨by decide +kernel,(zeF hQ k).2 _ _ _ _ _ _ _ _ _ h⟩⟩⟩⟩⟩⟩⟩⟩⟩⟩) (fun h=>(zkg hQ _) _ _ _ _ h))),
    fun i t u j s k_ t6 w v h=>zau (Eq.mpr (ztl i t u j s k_ t6 w v Q) (have h:=(ref02_round_h8.eq_2 i t u j s k_ t6 w v k).symm.trans h; zae h (fun h=>zad h fun hc0 h=>zad h fun hc1 h=>(zeF hQ k).2 _ _ _ _ _ _ _ _ _ h) (fun h=>⟨by decide +kernel,⟨by decide +kernel,⟨by decide +kernel,(zeF hQ k).1 _ _ _ _ _ _ h⟩⟩⟩)))⟩
theorem zlG {r:Vector UInt32 8} {Q:CallOut→Prop} (hQ:Q (zbq r)):∀ k:Nat,(∀ (i:Int) (s:Vector UInt32 8) (k_:Vector UInt32 64) (t6:Vector UInt32 8) (w:Vector UInt32 64),ref02_round_h4 k i s k_ t6 w=some r→zat zac zag [true,true,true,false,true,false] zak (zeD i s k_ t6 w) (fnK zac zan zaf Q))
  | 0=>fun _ _ _ _ _ h=>zcN h
  | k+1=>fun i s k_ t6 w h=>zau (Eq.mpr (ztr i s k_ t6 w Q) (have h:=(ref02_round_h4.eq_2 i s k_ t6 w k).symm.trans h; zae h (fun h=>zad h fun hc0 h=>zad h fun hc1 h=>zad h fun hc2 h=>zad h fun hc3 h=>zad h fun hc4 h=>(zlG hQ k) _ _ _ _ _ h) (fun h=>(zeF hQ _).1 _ _ _ _ _ _ h)))
theorem zeH {r:Vector UInt32 8} {Q:CallOut→Prop} (hQ:Q (zbq r)):∀ k:Nat,(∀ (b:List UInt8) (i:Int) (s:Vector UInt32 8) (k_:Vector UInt32 64) (t6:Vector UInt32 8) (w:Vector UInt32 64),ref02_round_h0 k b i s k_ t6 w=some r→zat zac zag [true,true,false,true,false] zak (zej b i s k_ t6 w) (fnK zac zan zaf Q))∧(∀ (b:List UInt8) (i:Int) (j:Int) (s:Vector UInt32 8) (k_:Vector UInt32 64) (t6:Vector UInt32 8) (w:Vector UInt32 64),ref02_round_h2 k b i j s k_ t6 w=some r→zat zac zag [true,true,false,true,false,false,true,false,false,true,false] zak (zeA b i j s k_ t6 w) (fnK zac zan zaf Q))
  | 0=>⟨fun _ _ _ _ _ _ h=>zcN h,fun _ _ _ _ _ _ _ h=>zcN h⟩
  | k+1=>⟨fun b i s k_ t6 w h=>zau (Eq.mpr (zs8 b i s k_ t6 w Q) (have h:=(ref02_round_h0.eq_2 b i s k_ t6 w k).symm.trans h; zae h (fun h=>(zeH hQ k).2 _ _ _ _ _ _ _ h) (fun h=>(zlG hQ _) _ _ _ _ _ h))),
    fun b i j s k_ t6 w h=>zau (Eq.mpr (ztQ b i j s k_ t6 w Q) (have h:=(ref02_round_h2.eq_2 b i j s k_ t6 w k).symm.trans h; zae h (fun h=>zad h fun hc0 h=>zad h fun hc1 h=>⟨hc0,(zeH hQ k).2 _ _ _ _ _ _ _ h⟩) (fun h=>(zeH hQ k).1 _ _ _ _ _ _ h)))⟩
theorem zxk (s:Vector UInt32 8) (b:List UInt8) (k_2:Vector UInt32 64) (Q:CallOut→Prop):zab zac zag zan zaf zak [.pv (.arr .u32 8 s),.pv (.sl .u8 b),.pv (.arr .u32 64 k_2)] [] Q =
    (zat zac zag [true,true,false,true,false] zak (zej b (0:Int) s k_2 (Vector.replicate 8 (0:UInt32)) (Vector.replicate 64 (0:UInt32))) (fnK zac zan zaf Q)):=by kernel_rfl
theorem zvX {k:Nat} (s:Vector UInt32 8) (b:List UInt8) (k_2:Vector UInt32 64) {r} {Q:CallOut→Prop} (h:ref02_round k s b k_2=some r) (hQ:Q (zbq r)):zab zac zag zan zaf zak [.pv (.arr .u32 8 s),.pv (.sl .u8 b),.pv (.arr .u32 64 k_2)] [] Q :=
  Eq.mpr (zxk s b k_2 Q) (have h:=(ref02_round.eq_1 k s b k_2).symm.trans h; (zeH hQ _).1 _ _ _ _ _ _ h)
def zfj:Ans
  | [.pv (.arr .u32 8 s),.pv (.sl .u8 b),.pv (.arr .u32 64 k_2)],[]=>some (some (64≤b.length),zbq (zc3 k_2 s (fun i=>List.getD b i 0)))
  | _,_=>none
theorem zrI:TblOK Tryd.prog theG ziq:=.cons ⟨by kernel_rfl,zwv⟩ (.nil)
theorem zs3:FnOK Tryd.prog theG 90 (unW zfj):=by
  refine FnOK.ofC (T:=ziq) (nt:=181) (np:=0) (mv:=[]) (nf:=false) (hs:=zaf) (fn:=Tryd.f90) (body:=zak) zrI (by kernel_rfl) (by kernel_rfl) (by kernel_rfl) (by kernel_rfl) (c:=zfj) (lv:=zag) ?_
  intro xs mem p out h hp
  unfold zfj at h
  split at h
  · cases h
    obtain ⟨k,hk⟩:=zqh _ _ _ hp
    exact zvX _ _ _ hk rfl
  · cases h
end
end Go.Proofs.YtnolgfdjcipmmaaDoor.M
namespace Go.Proofs.YtnolgfdjcipmmaaDoor.M
open Go
noncomputable section
set_option maxRecDepth 100000
set_option maxHeartbeats 0
noncomputable def zj3:Tbl:=[(89,[],zev),(90,[],zfj)]
noncomputable def zaJ:CfgW:=mkC Tryd.prog theG zj3 51 0 false
def zbd:Nat→List Nat:=fun i=>bif Nat.beq i 2 then [4,6,8,9]else bif Nat.beq i 0 then [0,4,5,6,7]else []
noncomputable abbrev zbs:Code:=Tryd.f81.body.getD .skip
noncomputable abbrev zbE:List ResultVar:=Tryd.f81.results.toList
def zbc:List Nat:=[]
def zcp (r:Vector UInt8 32):CallOut:=⟨.pv (.arr .u8 32 r),[],true,[]⟩
def zfo (h_:Vector UInt32 8) (h1:Vector UInt32 64) (i:Int) (t4:Vector UInt8 32) (p:List UInt8) (s:Vector UInt32 8):St:=⟨[(0,.rp (.st [.arr .u32 8 h_,.arr .u32 64 h1])),(4,.p 60000 []),(5,.o 60001),(6,.p 60002 []),(7,.pv (.sc .i i))],[(60000,.box (.pv (.arr .u8 32 t4))),(60001,.row (.s .u8 p) false),(60002,.box (.pv (.arr .u32 8 s)))]⟩
def zfs (i:Int) (t4:Vector UInt8 32) (s:Vector UInt32 8) (out:Vector UInt8 32):St:=⟨[(4,.p 60000 []),(6,.p 60001 []),(8,.p 60002 []),(9,.pv (.sc .i i))],[(60000,.box (.pv (.arr .u8 32 t4))),(60001,.box (.pv (.arr .u32 8 s))),(60002,.box (.pv (.arr .u8 32 out)))]⟩
theorem zwj (h_:Vector UInt32 8) (h1:Vector UInt32 64) (i:Int) (t4:Vector UInt8 32) (p:List UInt8) (s:Vector UInt32 8) (Q:CallOut→Prop):zaB zaJ zbd [true,true,true,false,true,false] zbs (zfo h_ h1 i t4 p s) (fnK zaJ zbE zbc Q) =
    (zal (decide (i < (((List.length p):Nat):Int))) ((((0:Int)≤i)∧((i≤(w64 (i+(64:Int))))∧((w64 (i+(64:Int)))≤(((List.length p):Nat):Int))))∧(((64:Nat)≤(List.length (List.take ((Int.toNat (w64 (i+(64:Int)))) - (Int.toNat i)) (List.drop (Int.toNat i) p))))∧(zat zaJ zbd [true,true,true,false,true,false] zbs (zfo h_ h1 (w64 (i+(64:Int))) t4 p (zc3 h1 s (fun(z7:Nat)=>(List.getD (List.take ((Int.toNat (w64 (i+(64:Int)))) - (Int.toNat i)) (List.drop (Int.toNat i) p)) z7 (0:UInt8))))) (fnK zaJ zbE zbc Q)))) (zat zaJ zbd [true,true,true,true,true,false,true,false] zbs (zfs (0:Int) t4 s (Vector.replicate 32 (0:UInt8))) (fnK zaJ zbE zbc Q))):=by kernel_rfl
theorem zv2 (i:Int) (t4:Vector UInt8 32) (s:Vector UInt32 8) (out:Vector UInt8 32) (Q:CallOut→Prop):zaB zaJ zbd [true,true,true,true,true,false,true,false] zbs (zfs i t4 s out) (fnK zaJ zbE zbc Q) =
    (zal (decide (i < (32:Int))) (((4:Int)≠(0:Int))∧((((0:Int)≤(w64 (Int.tdiv i (4:Int))))∧((w64 (Int.tdiv i (4:Int))) < (8:Int)))∧(((4:Int)≠(0:Int))∧((((0:Int)≤i)∧(i < (32:Int)))∧(zat zaJ zbd [true,true,true,true,true,false,true,false] zbs (zfs (w64 (i+(1:Int))) t4 s (Vector.setIfInBounds out (Int.toNat i) (UInt32.toUInt8 (zaE (List.getD (Vector.toList s) (Int.toNat (w64 (Int.tdiv i (4:Int)))) (0:UInt32)) (UInt64.toNat (UInt64.ofInt (w64 ((24:Int) - (w64 ((8:Int)*(Int.tmod i (4:Int)))))))))))) (fnK zaJ zbE zbc Q)))))) (Q (zcp out))):=by kernel_rfl
theorem zmV {r:Vector UInt8 32} {Q:CallOut→Prop} (hQ:Q (zcp r)):∀ k:Nat,(∀ (i:Int) (t4:Vector UInt8 32) (s:Vector UInt32 8) (out:Vector UInt8 32),ref02_hSum_h2 k i t4 s out=some r→zat zaJ zbd [true,true,true,true,true,false,true,false] zbs (zfs i t4 s out) (fnK zaJ zbE zbc Q))
  | 0=>fun _ _ _ _ h=>zcN h
  | k+1=>fun i t4 s out h=>zau (Eq.mpr (zv2 i t4 s out Q) (have h:=(ref02_hSum_h2.eq_2 i t4 s out k).symm.trans h; zae h (fun h=>⟨by decide +kernel,zad h fun hc0 h=>⟨by decide +kernel,zad h fun hc1 h=>(zmV hQ k) _ _ _ _ h⟩⟩) (fun h=>zam (Q:=Q) (e:=zcp) h hQ)))
theorem znW {r:Vector UInt8 32} {Q:CallOut→Prop} (hQ:Q (zcp r)):∀ k:Nat,(∀ (h_:Vector UInt32 8) (h1:Vector UInt32 64) (i:Int) (t4:Vector UInt8 32) (p:List UInt8) (s:Vector UInt32 8),ref02_hSum_h0 k h_ h1 i t4 p s=some r→zat zaJ zbd [true,true,true,false,true,false] zbs (zfo h_ h1 i t4 p s) (fnK zaJ zbE zbc Q))
  | 0=>fun _ _ _ _ _ _ h=>zcN h
  | k+1=>fun h_ h1 i t4 p s h=>zau (Eq.mpr (zwj h_ h1 i t4 p s Q) (have h:=(ref02_hSum_h0.eq_2 h_ h1 i t4 p s k).symm.trans h; zae h (fun h=>zad h fun hc0 h=>zad h fun hc1 h=>(znW hQ k) _ _ _ _ _ _ h) (fun h=>(zmV hQ _) _ _ _ _ h)))
theorem zxW (h_0_begin:Vector UInt32 8) (h_0_k:Vector UInt32 64) (b:List UInt8) (Q:CallOut→Prop):zab zaJ zbd zbE zbc zbs [.rp (.st [.arr .u32 8 h_0_begin,.arr .u32 64 h_0_k]),.pv (.sl .u8 b)] [] Q =
    (((List.length b)≤(1099511627776:Nat))∧(zat zaJ zbd [true,true,true,false,true,false] zbs (zfo h_0_begin h_0_k (0:Int) (Vector.replicate 32 (0:UInt8)) (zbD b) h_0_begin) (fnK zaJ zbE zbc Q))):=by kernel_rfl
theorem zx8 {k:Nat} (h_0_begin:Vector UInt32 8) (h_0_k:Vector UInt32 64) (b:List UInt8) {r} {Q:CallOut→Prop} (h:ref02_hSum k h_0_begin h_0_k b=some r) (hQ:Q (zcp r)):zab zaJ zbd zbE zbc zbs [.rp (.st [.arr .u32 8 h_0_begin,.arr .u32 64 h_0_k]),.pv (.sl .u8 b)] [] Q :=
  Eq.mpr (zxW h_0_begin h_0_k b Q) (have h:=(ref02_hSum.eq_1 k h_0_begin h_0_k b).symm.trans h; zad h fun hc0 h=>(znW hQ _) _ _ _ _ _ _ h)
def zgB:Ans
  | [.rp (.st [.arr .u32 8 h_0_begin,.arr .u32 64 h_0_k]),.pv (.sl .u8 b)],[]=>some (some (b.length≤1099511627776∧h_0_begin=zb4∧h_0_k=shaK),zcp (zaQ b))
  | _,_=>none
theorem ztL:TblOK Tryd.prog theG zj3:=.cons ⟨by kernel_rfl,zro⟩ (.cons ⟨by kernel_rfl,zs3⟩ (.nil))
theorem zw9:FnOK Tryd.prog theG 81 (unW zgB):=by
  refine FnOK.ofC (T:=zj3) (nt:=51) (np:=0) (mv:=[]) (nf:=false) (hs:=zbc) (fn:=Tryd.f81) (body:=zbs) ztL (by kernel_rfl) (by kernel_rfl) (by kernel_rfl) (by kernel_rfl) (c:=zgB) (lv:=zbd) ?_
  intro xs mem p out h hp
  unfold zgB at h
  split at h
  · cases h
    obtain ⟨k,hk⟩:=zrq _ _ _ hp
    exact zx8 _ _ _ hk rfl
  · cases h
end
end Go.Proofs.YtnolgfdjcipmmaaDoor.M
namespace Go.Proofs.YtnolgfdjcipmmaaDoor.M
open Go
noncomputable section
set_option maxRecDepth 100000
set_option maxHeartbeats 0
noncomputable def zht:Tbl:=[(81,[],zgB),(70,[],zeM)]
noncomputable def zll:CfgW:=mkC Tryd.prog theG zht 11 0 false
def zgg:Nat→List Nat:=fun i=>[]
noncomputable abbrev zg9:Code:=Tryd.f69.body.getD .skip
noncomputable abbrev zlv:List ResultVar:=Tryd.f69.results.toList
def zf0:List Nat:=[]
def zc4 (r:Vector UInt8 32):CallOut:=⟨.pv (.arr .u8 32 r),[],true,[]⟩
theorem zsU (h_0_begin:Vector UInt32 8) (h_0_k:Vector UInt32 64) (b:List UInt8) (Q:CallOut→Prop):zab zll zgg zlv zf0 zg9 [.rp (.st [.arr .u32 8 h_0_begin,.arr .u32 64 h_0_k]),.pv (.sl .u8 b)] [] Q =
    ((((List.length b)≤(1099511627776:Nat))∧((h_0_begin=zb4)∧(h_0_k=shaK)))∧((((List.length (Vector.toList (zaQ b)))≤(1099511627776:Nat))∧((h_0_begin=zb4)∧(h_0_k=shaK)))∧(Q (zc4 (zaQ (Vector.toList (zaQ b))))))):=by kernel_rfl
theorem ztc (h_0_begin:Vector UInt32 8) (h_0_k:Vector UInt32 64) (b:List UInt8) {r} {Q:CallOut→Prop} (h:ref02_hTwice h_0_begin h_0_k b=some r) (hQ:Q (zc4 r)):zab zll zgg zlv zf0 zg9 [.rp (.st [.arr .u32 8 h_0_begin,.arr .u32 64 h_0_k]),.pv (.sl .u8 b)] [] Q :=
  Eq.mpr (zsU h_0_begin h_0_k b Q) (have h:=(ref02_hTwice.eq_1 h_0_begin h_0_k b).symm.trans h; zad h fun hc0 h=>zad h fun hc1 h=>zam (Q:=Q) (e:=zc4) h hQ)
def zek:Ans
  | [.rp (.st [.arr .u32 8 h_0_begin,.arr .u32 64 h_0_k]),.pv (.sl .u8 b)],[]=>some (some (b.length≤1099511627776∧h_0_begin=zb4∧h_0_k=shaK),zc4 (zaQ (Vector.toList (zaQ b))))
  | _,_=>none
theorem zp1:TblOK Tryd.prog theG zht:=.cons ⟨by kernel_rfl,zw9⟩ (.cons ⟨by kernel_rfl,znS⟩ (.nil))
theorem zq1:FnOK Tryd.prog theG 69 (unW zek):=by
  refine FnOK.ofC (T:=zht) (nt:=11) (np:=0) (mv:=[]) (nf:=false) (hs:=zf0) (fn:=Tryd.f69) (body:=zg9) zp1 (by kernel_rfl) (by kernel_rfl) (by kernel_rfl) (by kernel_rfl) (c:=zek) (lv:=zgg) ?_
  intro xs mem p out h hp
  unfold zek at h
  split at h
  · cases h
    exact ztc _ _ _ (zoH _ _ _ hp) rfl
  · cases h
end
end Go.Proofs.YtnolgfdjcipmmaaDoor.M
namespace Go.Proofs.YtnolgfdjcipmmaaDoor.M
open Go
noncomputable section
set_option maxRecDepth 100000
set_option maxHeartbeats 0
noncomputable def zjc:Tbl:=[(68,[],zis),(69,[],zek)]
noncomputable def znj:CfgW:=mkC Tryd.prog theG zjc 6 0 false
def zgW:Nat→List Nat:=fun i=>[]
noncomputable abbrev ziF:Code:=Tryd.f48.body.getD .skip
noncomputable abbrev zm3:List ResultVar:=Tryd.f48.results.toList
def zg8:List Nat:=[]
def zdC (r:Vector UInt8 32):CallOut:=⟨.pv (.arr .u8 32 r),[],true,[]⟩
theorem zw2 (b:List UInt8) (Q:CallOut→Prop):zab znj zgW zm3 zg8 ziF [.pv (.sl .u8 b)] [] Q =
    ((((List.length b)≤(1099511627776:Nat))∧((zb4=zb4)∧(shaK=shaK)))∧(Q (zdC (zaQ (Vector.toList (zaQ b)))))):=by kernel_rfl
theorem zwE (b:List UInt8) {r} {Q:CallOut→Prop} (h:ref02_Twice b=some r) (hQ:Q (zdC r)):zab znj zgW zm3 zg8 ziF [.pv (.sl .u8 b)] [] Q :=
  Eq.mpr (zw2 b Q) (have h:=(ref02_Twice.eq_1 b).symm.trans h; zad h fun hc0 h=>zam (Q:=Q) (e:=zdC) h hQ)
def zfd:Ans
  | [.pv (.sl .u8 b)],[]=>some (some (b.length≤1099511627776),zdC (zaQ (Vector.toList (zaQ b))))
  | _,_=>none
theorem zqC:TblOK Tryd.prog theG zjc:=.cons ⟨by kernel_rfl,zyZ⟩ (.cons ⟨by kernel_rfl,zq1⟩ (.nil))
theorem ztG:FnOK Tryd.prog theG 48 (unW zfd):=by
  refine FnOK.ofC (T:=zjc) (nt:=6) (np:=0) (mv:=[]) (nf:=false) (hs:=zg8) (fn:=Tryd.f48) (body:=ziF) zqC (by kernel_rfl) (by kernel_rfl) (by kernel_rfl) (by kernel_rfl) (c:=zfd) (lv:=zgW) ?_
  intro xs mem p out h hp
  unfold zfd at h
  split at h
  · cases h
    exact zwE _ (zql _ hp) rfl
  · cases h
end
end Go.Proofs.YtnolgfdjcipmmaaDoor.M
