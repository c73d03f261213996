/- The statement of TreeNil: for every input the law returns true, and each argument reads behind the call as it read before. No condition. -/
import Derived.KernelRfl
import Derived.Test.YtnolgfdjcipmmaaDoorProg
import Derived.Test.YtnolgfdjcipmmaaDoorRows
import Derived.Test.YtnolgfdjcipmmaaDoorCards
import Derived.Test.YtnolgfdjcipmmaaDoorTie
import Derived.WalkKit
import Derived.ProofKit
import Derived.Handy
import Derived.Lay
import Derived.SizedLaws
import Derived.SevenTiedAt
import Derived.Test.YtnolgfdjcipmmaaDoorLe
import Derived.Test.YtnolgfdjcipmmaaDoorFtree
import Derived.Test.YtnolgfdjcipmmaaDoorFlaw28
import Derived.Test.YtnolgfdjcipmmaaDoorSwords
import Derived.Test.YtnolgfdjcipmmaaDoorSshaS
import Derived.Test.YtnolgfdjcipmmaaDoorSendS
import Derived.Test.YtnolgfdjcipmmaaDoorStarS
import Derived.Test.YtnolgfdjcipmmaaDoorSbigS
import Derived.Test.YtnolgfdjcipmmaaDoorStreS
import Derived.Test.YtnolgfdjcipmmaaDoorStreL
import Derived.Test.YtnolgfdjcipmmaaDoorSshaK
import Derived.Test.YtnolgfdjcipmmaaDoorSKL
set_option linter.unusedVariables false
set_option linter.unusedSimpArgs false
set_option autoImplicit false
namespace Go.Proofs.YtnolgfdjcipmmaaDoor.M
open Go
noncomputable section
def law28_TreeNil (h_0_Prev:Vector UInt8 32) (h_0_Root:Vector UInt8 32) (h_0_Time:UInt32) (h_0_Bits:UInt32) (h_0_Nonce:UInt32) (n:Int) (zero:Bool):Bool :=
  bif zero then(true)
    else(true)
theorem znX (p r:Vector UInt8 32) (t b m:UInt32) (n:Int) (zero:Bool):law28_TreeNil p r t b m n zero=true:=by
  rw[law28_TreeNil.eq_1]
  cases zero<;>rfl
end
end Go.Proofs.YtnolgfdjcipmmaaDoor.M
namespace Go.Proofs.YtnolgfdjcipmmaaDoor.M
open Go
noncomputable section
set_option maxRecDepth 100000
set_option maxHeartbeats 0
noncomputable def zf9:Tbl:=[(8,[],(orC zgG zgp)),(14,[],(orC zfx zfl)),(10,[],(orC zeE zem)),(15,[],(orC zgy zgw)),(16,[],(orC zez zep)),(17,[],(orC zfr zff)),(11,[],(orC zgL zgm)),(7,[],(orC zfc zfk)),(18,[],(orC zfn zfi)),(13,[],zfw)]
noncomputable def zkp:CfgW:=mkC Tryd.prog theG zf9 100 0 false
def ze9:Nat→List Nat:=fun i=>[]
noncomputable abbrev zfF:Code:=Tryd.f4.body.getD .skip
noncomputable abbrev zkh:List ResultVar:=Tryd.f4.results.toList
def ze6:List Nat:=[]
def zbk (r:Bool):CallOut:=⟨.pv (.sc .b r),[],true,[]⟩
theorem zqD (h_0_Prev:Vector UInt8 32) (h_0_Root:Vector UInt8 32) (h_0_Time:UInt32) (h_0_Bits:UInt32) (h_0_Nonce:UInt32) (n:Int) (zero:Bool) (Q:CallOut→Prop):zab zkp ze9 zkh ze6 zfF [.pv (.st [.arr .u8 32 h_0_Prev,.arr .u8 32 h_0_Root,.sc .u32 h_0_Time,.sc .u32 h_0_Bits,.sc .u32 h_0_Nonce]),.pv (.sc .i n),.pv (.sc .b zero)] [] Q =
    (zal zero (Q (zbk true)) (Q (zbk true))):=by kernel_rfl
theorem zrv (h_0_Prev:Vector UInt8 32) (h_0_Root:Vector UInt8 32) (h_0_Time:UInt32) (h_0_Bits:UInt32) (h_0_Nonce:UInt32) (n:Int) (zero:Bool) {Q:CallOut→Prop} (h:Q (zbk (law28_TreeNil h_0_Prev h_0_Root h_0_Time h_0_Bits h_0_Nonce n zero))):zab zkp ze9 zkh ze6 zfF [.pv (.st [.arr .u8 32 h_0_Prev,.arr .u8 32 h_0_Root,.sc .u32 h_0_Time,.sc .u32 h_0_Bits,.sc .u32 h_0_Nonce]),.pv (.sc .i n),.pv (.sc .b zero)] [] Q :=
  Eq.mpr (zqD h_0_Prev h_0_Root h_0_Time h_0_Bits h_0_Nonce n zero Q) (have h:=Eq.mp (congrArg (fun r=>Q (zbk r)) (law28_TreeNil.eq_1 h_0_Prev h_0_Root h_0_Time h_0_Bits h_0_Nonce n zero)) h; zcK (Q:=fun r=>Q (zbk r)) h (fun h=>h) (fun h=>h))
def law28_TreeNil_c:Ans
  | [.pv (.st [.arr .u8 32 h_0_Prev,.arr .u8 32 h_0_Root,.sc .u32 h_0_Time,.sc .u32 h_0_Bits,.sc .u32 h_0_Nonce]),.pv (.sc .i n),.pv (.sc .b zero)],[]=>some (none,zbk (true))
  | _,_=>none
theorem zok:TblOK Tryd.prog theG zf9:=.cons ⟨by kernel_rfl,(FnOK.orC zwQ zwc)⟩ (.cons ⟨by kernel_rfl,(FnOK.orC zsZ zti)⟩ (.cons ⟨by kernel_rfl,(FnOK.orC zsA zru)⟩ (.cons ⟨by kernel_rfl,(FnOK.orC zvq zwO)⟩ (.cons ⟨by kernel_rfl,(FnOK.orC zso zst)⟩ (.cons ⟨by kernel_rfl,(FnOK.orC zte ztO)⟩ (.cons ⟨by kernel_rfl,(FnOK.orC zwm zxl)⟩ (.cons ⟨by kernel_rfl,(FnOK.orC ztE zs0)⟩ (.cons ⟨by kernel_rfl,(FnOK.orC ztK zts)⟩ (.cons ⟨by kernel_rfl,zsT⟩ (.nil))))))))))
theorem law28_TreeNil_ok:FnOK Tryd.prog theG 4 (unW law28_TreeNil_c):=by
  refine FnOK.ofC (T:=zf9) (nt:=100) (np:=0) (mv:=[]) (nf:=false) (hs:=ze6) (fn:=Tryd.f4) (body:=zfF) zok (by kernel_rfl) (by kernel_rfl) (by kernel_rfl) (by kernel_rfl) (c:=law28_TreeNil_c) (lv:=ze9) ?_
  intro xs mem p out h hp
  unfold law28_TreeNil_c at h
  split at h
  · cases h
    exact zrv _ _ _ _ _ _ _ (congrArg zbk (znX _ _ _ _ _ _ _))
  · cases h
end
end Go.Proofs.YtnolgfdjcipmmaaDoor.M
namespace Go.Proofs.YtnolgfdjcipmmaaDoor
open Go Go.ChangeShapes Go.WideShapes Go.ChangeAt Go.RowKit
open Go.Proofs.YtnolgfdjcipmmaaDoor
theorem law28_TreeNil_own : ownKnob Tryd.prog.godebug = none := by kernel_rfl
theorem law28_TreeNil_law : ∀ ys : List M.PV, M.FitL [.st [.arr .u8 32, .arr .u8 32, .sc .u32, .sc .u32, .sc .u32], .sc .i, .sc .b] ys → ∃ p out, M.law28_TreeNil_c (ys.map .pv) [] = some (p, out) ∧ p.h ∧ out.val = .pv (.sc .b true) := by
  rintro ys ⟨_, _, rfl, ⟨_, rfl, ⟨_, _, rfl, ⟨x0_Prev, rfl, hx0_Prev⟩, ⟨_, _, rfl, ⟨x0_Root, rfl, hx0_Root⟩, ⟨_, _, rfl, ⟨x0_Time, rfl, hx0_Time⟩, ⟨_, _, rfl, ⟨x0_Bits, rfl, hx0_Bits⟩, ⟨_, _, rfl, ⟨x0_Nonce, rfl, hx0_Nonce⟩, rfl⟩⟩⟩⟩⟩⟩, ⟨_, _, rfl, ⟨x1, rfl, hx1⟩, ⟨_, _, rfl, ⟨x2, rfl, hx2⟩, rfl⟩⟩⟩
  exact ⟨_, _, rfl, trivial, rfl⟩
set_option maxRecDepth 100000 in
theorem zlj (os : Os) (started : os.Started) (H : Type) (enc : TypeId × Value → H) :
    ReturnsInHanded {} Tryd.checked os 4 .any (fun w args => (Rows.treeNilSpec.pre enc Tryd.prog Tryd.f4 [] false w args ∧ laidMetH Tryd.prog Rows.treeNilRow.laid w) ∧ sizedMet enc Tryd.prog Tryd.f4 (OpenSpec.ofChange Rows.treeNilSpec) false w args)
      (Rows.treeNilSpec.post enc Tryd.prog Tryd.f4 false true false false) := by
  refine returnsInHanded_of_change_and (C := Tryd.checked) (X := fun w _ => laidMetH Tryd.prog Rows.treeNilRow.laid w) (fun _ _ _ hh h => h.of_heap hh) law28_TreeNil_own started (by kernel_rfl) (by kernel_rfl)
    (ChangeSpec.witness_shaped (enc := enc) (C := Tryd.checked) (os := os) (X := fun w _ => laidMetH Tryd.prog Rows.treeNilRow.laid w) false (World.laidAll Tryd.prog os Rows.treeNilRow.laid) #[.agg #[.int .u8 0, .int .u8 0, .int .u8 0, .int .u8 0, .int .u8 0, .int .u8 0, .int .u8 0, .int .u8 0, .int .u8 0, .int .u8 0, .int .u8 0, .int .u8 0, .int .u8 0, .int .u8 0, .int .u8 0, .int .u8 0, .int .u8 0, .int .u8 0, .int .u8 0, .int .u8 0, .int .u8 0, .int .u8 0, .int .u8 0, .int .u8 0, .int .u8 0, .int .u8 0, .int .u8 0, .int .u8 0, .int .u8 0, .int .u8 0, .int .u8 0, .int .u8 0, .int .u8 0, .int .u8 0, .int .u8 0, .int .u8 0, .int .u8 0, .int .u8 0, .int .u8 0, .int .u8 0, .int .u8 0, .int .u8 0, .int .u8 0, .int .u8 0, .int .u8 0, .int .u8 0, .int .u8 0, .int .u8 0, .int .u8 0, .int .u8 0, .int .u8 0, .int .u8 0, .int .u8 0, .int .u8 0, .int .u8 0, .int .u8 0, .int .u8 0, .int .u8 0, .int .u8 0, .int .u8 0, .int .u8 0, .int .u8 0, .int .u8 0, .int .u8 0, .int .u32 0, .int .u32 0, .int .u32 0], .int .i64 0, .bool false] 8 (World.laidAll_os _ _ _)
      (World.shaped_of_ZipB (by kernel_rfl) (by kernel_rfl)) (by kernel_rfl) (by kernel_rfl) (by kernel_rfl)
      (by rw [MakeChecks.laidMetH_plain _ _ _ (by kernel_rfl)]; exact laidMet_laidAll _ (by kernel_rfl) (by kernel_rfl))) ?_
  intro W base args ds gs before hval hW _ hsz hL _
  exact M.law_contract (ss := [.st [.arr .u8 32, .arr .u8 32, .sc .u32, .sc .u32, .sc .u32], .sc .i, .sc .b]) (G := M.theG) (c := M.law28_TreeNil_c) (tb := 4) rfl (fun ds h => by
      match ds, h with
      | [d0, d1, d2], _ => rfl) (by kernel_rfl) (by kernel_rfl) (by kernel_rfl) (by kernel_rfl) (by kernel_rfl) M.law28_TreeNil_ok law28_TreeNil_law hval hW hsz (M.globs (by rwa [MakeChecks.laidMetH_plain _ _ _ (by kernel_rfl)] at hL))
theorem treeNil_row : Rows.TreeNilSaid :=
  OpenClaim.holds_of_wide 4 Tryd.f4 rfl rfl rfl rfl rfl rfl rfl ⟨rfl, rfl, rfl, rfl, rfl⟩ rfl rfl rfl rfl rfl (by kernel_rfl) (by kernel_rfl) (by kernel_rfl)
    (of_decide_eq_true (by kernel_rfl)) (by unfold Func.isWrapper; first | (rw [if_pos (by decide +kernel)]; kernel_rfl) | (rw [if_neg (by decide +kernel)]; exact ⟨rfl, rfl⟩))
    (fun os started H enc _ => zlj os started H enc)
theorem treeNil_card : Rows.TreeNilCardSaid :=
  Claim7.holds_tied_plain_at .later [] [.data] true (true, "8e4088b64b8e26df6e7d866a397ff3a1a07d139fc97da5e262e2ed5c6b2be50c") true treeNil_row (fun _ h => by cases h) (by kernel_rfl) (fun _ h => by cases h) treeNil_row_tie rfl ⟨rfl, rfl⟩ (by kernel_rfl) rfl
    (fun f fn hf hfn => by
      obtain rfl : f = 4 := Option.some.inj ((show Tryd.prog.funcNamed "moneyer/moneyerlaw28.TreeNil" = some 4 by kernel_rfl).symm.trans hf) |>.symm
      obtain rfl : fn = Tryd.f4 := (Option.some.inj ((show Tryd.prog.funcs[4]? = some Tryd.f4 by kernel_rfl).symm.trans hfn)).symm
      exact ⟨by kernel_rfl, fun j t ht => by
        have hp : Tryd.f4.params = #[31, 3, 4] := by kernel_rfl
        rw [hp] at ht
        have hm : t ∈ [31, 3, 4] := by simpa using Array.mem_of_getElem? ht
        have hall : ([31, 3, 4].all fun u => !Tryd.prog.wantsStandIn u) = true := by kernel_rfl
        exact (show Tryd.prog.wantsStandIn t = false by simpa using List.all_eq_true.1 hall t hm)⟩)
    (by kernel_rfl)
#print axioms treeNil_card
end Go.Proofs.YtnolgfdjcipmmaaDoor
