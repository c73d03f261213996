/- The statement of CellStacks: for every input the law returns true, and each argument reads behind the call as it read before. No condition. -/
import Derived.KernelRfl
import Derived.Test.YtpgpagmnhikpiaaProg
import Derived.Test.YtpgpagmnhikpiaaRows
import Derived.WalkKit
import Derived.ProofKit
import Derived.Handy
import Derived.Lay
import Derived.SizedLaws
import Derived.SevenTiedAt
import Derived.Test.YtpgpagmnhikpiaaLd
import Derived.Test.YtpgpagmnhikpiaaFlaw12
import Derived.Test.YtpgpagmnhikpiaaFcell
import Derived.Test.YtpgpagmnhikpiaaFref12
import Derived.Test.YtpgpagmnhikpiaaSwords
import Derived.Test.YtpgpagmnhikpiaaScellS
import Derived.Test.YtpgpagmnhikpiaaScellF
set_option linter.unusedVariables false
set_option linter.unusedSimpArgs false
set_option autoImplicit false
namespace Go.Proofs.Ytpgpagmnhikpiaa.M
open Go
noncomputable section
/-- moneyer/moneyerlaw12.CellStacks -/
def law12_CellStacks (l : List PV) (b : List UInt8) (n : Int) : Option (Bool) :=
  if (cellsW l) = true then
    bif eqb (greatS l) false then (bif bif false then true else (decide ((4000 : Int) < (((List.length b) : Nat) : Int))) then (some law12_lives)
        else (if (cellsB l) = true then
          if ((cellsB l) = true) ∧ (I64 n) then
            if ((cellsB (Prod.snd (pushS l b))) = true) ∧ ((cellsB (Prod.snd (pushS l b))) = true) then
              bif eqb (decide ((List.map cellOf (Prod.snd (pushS l b))) = (List.map cellOf (Prod.snd (pushS l b))))) true then (bif eqb (bif true then (decide ((Prod.fst (pushS l b)) = (Prod.fst (pushS l b)))) else false) true then (if ((cellsB (Prod.fst (Prod.snd (popS l n)))) = true) ∧ ((cellsB (Prod.fst (Prod.snd (popS l n)))) = true) then
                    bif eqb (bif true then (decide ((List.map cellOf (Prod.fst (Prod.snd (popS l n)))) = (List.map cellOf (Prod.fst (Prod.snd (popS l n)))))) else false) true then (if ((cellsB (Prod.snd (Prod.snd (popS l n)))) = true) ∧ ((cellsB (Prod.snd (Prod.snd (popS l n)))) = true) then
                        bif eqb (bif true then (decide ((List.map cellOf (Prod.snd (Prod.snd (popS l n)))) = (List.map cellOf (Prod.snd (Prod.snd (popS l n)))))) else false) true then (bif eqb (bif true then (decide ((Prod.fst (popS l n)) = (Prod.fst (popS l n)))) else false) true then (some true)
                            else (some false))
                          else (some false)
                      else none)
                      else (some false)
                  else none)
                  else (some false))
                else (some false)
            else none
          else none
        else none))
      else (some law12_lives)
  else none
theorem law12_CellStacks_q (l : List PV) (b : List UInt8) (n : Int) : law12_CellStacks l b n = (if (cellsW l) = true then
    bif eqb (greatS l) false then (bif bif false then true else (decide ((4000 : Int) < (((List.length b) : Nat) : Int))) then (some law12_lives)
        else (if (cellsB l) = true then
          if ((cellsB l) = true) ∧ (I64 n) then
            if ((cellsB (Prod.snd (pushS l b))) = true) ∧ ((cellsB (Prod.snd (pushS l b))) = true) then
              bif eqb (decide ((List.map cellOf (Prod.snd (pushS l b))) = (List.map cellOf (Prod.snd (pushS l b))))) true then (bif eqb (bif true then (decide ((Prod.fst (pushS l b)) = (Prod.fst (pushS l b)))) else false) true then (if ((cellsB (Prod.fst (Prod.snd (popS l n)))) = true) ∧ ((cellsB (Prod.fst (Prod.snd (popS l n)))) = true) then
                    bif eqb (bif true then (decide ((List.map cellOf (Prod.fst (Prod.snd (popS l n)))) = (List.map cellOf (Prod.fst (Prod.snd (popS l n)))))) else false) true then (if ((cellsB (Prod.snd (Prod.snd (popS l n)))) = true) ∧ ((cellsB (Prod.snd (Prod.snd (popS l n)))) = true) then
                        bif eqb (bif true then (decide ((List.map cellOf (Prod.snd (Prod.snd (popS l n)))) = (List.map cellOf (Prod.snd (Prod.snd (popS l n)))))) else false) true then (bif eqb (bif true then (decide ((Prod.fst (popS l n)) = (Prod.fst (popS l n)))) else false) true then (some true)
                            else (some false))
                          else (some false)
                      else none)
                      else (some false)
                  else none)
                  else (some false))
                else (some false)
            else none
          else none
        else none))
      else (some law12_lives)
  else none) := by kernel_rfl
theorem law12_CellStacks_spec (l : List PV) (b : List UInt8) (n : Int) (hp : cellsW l = true ∧ I64 n) : law12_CellStacks l b n = some true := by
  have hl : law12_lives = true := rfl
  rw [law12_CellStacks_q, if_pos hp.1, hl]
  cases hg : greatS l with
  | true => rfl
  | false =>
    obtain ⟨hc, hlen⟩ := greatS_small hp.1 hg
    simp only [eqb_f, Bool.not_false, cond_true, cond_false]
    by_cases h : (4000 : Int) < ((b.length : Nat) : Int)
    · rw [bif_pos h]
    · have p1 := pushS_cells (b := b) hc
      have p2 := popS_cells (n := n) hc
      rw [bif_neg h, if_pos hc, if_pos ⟨hc, hp.2⟩, if_pos ⟨p1, p1⟩, if_pos ⟨p2.1, p2.1⟩, if_pos ⟨p2.2, p2.2⟩]
      simp [eqb_t]

end
end Go.Proofs.Ytpgpagmnhikpiaa.M

namespace Go.Proofs.Ytpgpagmnhikpiaa.M
open Go
noncomputable section
set_option maxRecDepth 100000
noncomputable def law12_CellStacks_T : Tbl := [(21, [], law12_great_c), (11, [], law12_lives_c), (22, [false], cell_Push_c), (23, [false], ref12_Push_c), (24, [false], cell_Pop_c), (25, [false], ref12_Pop_c), (26, [], ref12_Same_c)]
noncomputable def law12_CellStacks_C : CfgW := mkC Try.prog noG law12_CellStacks_T 77 0 false
def law12_CellStacks_lv : Nat → List Nat := fun i => []
noncomputable abbrev law12_CellStacks_b : Code := Try.f7.body.getD .skip
noncomputable abbrev law12_CellStacks_r : List ResultVar := Try.f7.results.toList
def law12_CellStacks_hs : List Nat := []

def law12_CellStacks_enc (r : Bool) : CallOut := ⟨.pv (.sc .b r), [], true, []⟩
theorem law12_CellStacks_e (l : List PV) (b : List UInt8) (n : Int) (Q : CallOut → Prop) : evalFnP law12_CellStacks_C law12_CellStacks_lv law12_CellStacks_r law12_CellStacks_hs law12_CellStacks_b [.pv (.sp 1 l), .pv (.sl .u8 b), .pv (.sc .i n)] [] Q =
    (((cellsW l) = true) ∧ (condP (eqb (greatS l) false) (condP (bif false then true else (decide ((4000 : Int) < (((List.length b) : Nat) : Int)))) (Q (law12_CellStacks_enc law12_lives)) (((cellsB l) = true) ∧ (((cellsB l) = true) ∧ ((((cellsB l) = true) ∧ (I64 n)) ∧ ((((cellsB l) = true) ∧ (I64 n)) ∧ ((((cellsB (Prod.snd (pushS l b))) = true) ∧ ((cellsB (Prod.snd (pushS l b))) = true)) ∧ (condP (eqb (decide ((List.map cellOf (Prod.snd (pushS l b))) = (List.map cellOf (Prod.snd (pushS l b))))) true) (condP (eqb (bif true then (decide ((Prod.fst (pushS l b)) = (Prod.fst (pushS l b)))) else false) true) ((((cellsB (Prod.fst (Prod.snd (popS l n)))) = true) ∧ ((cellsB (Prod.fst (Prod.snd (popS l n)))) = true)) ∧ (condP (eqb (bif true then (decide ((List.map cellOf (Prod.fst (Prod.snd (popS l n)))) = (List.map cellOf (Prod.fst (Prod.snd (popS l n)))))) else false) true) ((((cellsB (Prod.snd (Prod.snd (popS l n)))) = true) ∧ ((cellsB (Prod.snd (Prod.snd (popS l n)))) = true)) ∧ (condP (eqb (bif true then (decide ((List.map cellOf (Prod.snd (Prod.snd (popS l n)))) = (List.map cellOf (Prod.snd (Prod.snd (popS l n)))))) else false) true) (condP (eqb (bif true then (decide ((Prod.fst (popS l n)) = (Prod.fst (popS l n)))) else false) true) (Q (law12_CellStacks_enc true)) (Q (law12_CellStacks_enc false))) (Q (law12_CellStacks_enc false)))) (Q (law12_CellStacks_enc false)))) (Q (law12_CellStacks_enc false))) (Q (law12_CellStacks_enc false))))))))) (Q (law12_CellStacks_enc law12_lives)))) := by kernel_rfl
theorem law12_CellStacks_w (l : List PV) (b : List UInt8) (n : Int) {r} {Q : CallOut → Prop} (h : law12_CellStacks l b n = some r) (hQ : Q (law12_CellStacks_enc r)) : evalFnP law12_CellStacks_C law12_CellStacks_lv law12_CellStacks_r law12_CellStacks_hs law12_CellStacks_b [.pv (.sp 1 l), .pv (.sl .u8 b), .pv (.sc .i n)] [] Q :=
  Eq.mpr (law12_CellStacks_e l b n Q) (have h := (law12_CellStacks_q l b n).symm.trans h; ite_ok h fun hc0 h => cond_ok h (fun h => cond_ok h (fun h => ret_ok (Q := Q) (e := law12_CellStacks_enc) h hQ) (fun h => ite_ok h fun hc1 h => ⟨hc1, ite_ok h fun hc2 h => ⟨hc2, ite_ok h fun hc3 h => cond_ok h (fun h => cond_ok h (fun h => ite_ok h fun hc4 h => cond_ok h (fun h => ite_ok h fun hc5 h => cond_ok h (fun h => cond_ok h (fun h => ret_ok (Q := Q) (e := law12_CellStacks_enc) h hQ) (fun h => ret_ok (Q := Q) (e := law12_CellStacks_enc) h hQ)) (fun h => ret_ok (Q := Q) (e := law12_CellStacks_enc) h hQ)) (fun h => ret_ok (Q := Q) (e := law12_CellStacks_enc) h hQ)) (fun h => ret_ok (Q := Q) (e := law12_CellStacks_enc) h hQ)) (fun h => ret_ok (Q := Q) (e := law12_CellStacks_enc) h hQ)⟩⟩)) (fun h => ret_ok (Q := Q) (e := law12_CellStacks_enc) h hQ))
def law12_CellStacks_c : Ans
  | [.pv (.sp 1 l), .pv (.sl .u8 b), .pv (.sc .i n)], [] => some (some (cellsW l = true ∧ I64 n), law12_CellStacks_enc (true))
  | _, _ => none
theorem law12_CellStacks_tok : TblOK Try.prog noG law12_CellStacks_T := .cons ⟨by kernel_rfl, law12_great_ok⟩ (.cons ⟨by kernel_rfl, law12_lives_ok⟩ (.cons ⟨by kernel_rfl, cell_Push_ok⟩ (.cons ⟨by kernel_rfl, ref12_Push_ok⟩ (.cons ⟨by kernel_rfl, cell_Pop_ok⟩ (.cons ⟨by kernel_rfl, ref12_Pop_ok⟩ (.cons ⟨by kernel_rfl, ref12_Same_ok⟩ (.nil)))))))
theorem law12_CellStacks_ok : FnOK Try.prog noG 7 (unW law12_CellStacks_c) := by
  refine FnOK.ofC (T := law12_CellStacks_T) (nt := 77) (np := 0) (nf := false) (hs := law12_CellStacks_hs) (fn := Try.f7) (body := law12_CellStacks_b) law12_CellStacks_tok (by kernel_rfl) (by kernel_rfl) (by kernel_rfl) (by kernel_rfl) (c := law12_CellStacks_c) (lv := law12_CellStacks_lv) ?_
  intro xs mem p out h hp
  unfold law12_CellStacks_c at h
  split at h
  · cases h
    exact law12_CellStacks_w _ _ _ (law12_CellStacks_spec _ _ _ hp) rfl
  · cases h
end
end Go.Proofs.Ytpgpagmnhikpiaa.M

namespace Go.Proofs.Ytpgpagmnhikpiaa
open Go Go.ChangeShapes Go.WideShapes Go.ChangeAt Go.RowKit
open Go.Proofs.Ytpgpagmnhikpiaa
theorem law12_CellStacks_own : ownKnob Try.prog.godebug = none := by kernel_rfl
theorem law12_CellStacks_law : ∀ ys : List M.PV, M.FitL [.sp 1 (.sl .u8), .sl .u8, .sc .i] ys → ∃ p out, M.law12_CellStacks_c (ys.map .pv) [] = some (p, out) ∧ p.h ∧ out.val = .pv (.sc .b true) := by
  rintro ys ⟨_, _, rfl, ⟨x0, rfl, hx0, lx0⟩, ⟨_, _, rfl, ⟨x1, rfl, hx1, lx1⟩, ⟨_, _, rfl, ⟨x2, rfl, hx2⟩, rfl⟩⟩⟩
  exact ⟨_, _, rfl, ⟨M.cellsW_fit hx0, hx2⟩, rfl⟩
set_option maxRecDepth 100000 in
theorem law12_CellStacks_lifted (os : Os) (started : os.Started) (H : Type) (enc : TypeId × Value → H) :
    ReturnsInHanded {} Try.checked os 7 .any (Rows.cellStacksSpec.pre6 enc Try.prog Try.f7 [] false)
      (Rows.cellStacksSpec.post enc Try.prog Try.f7 false true false false) := by
  refine returnsInHanded_of_change_sized (C := Try.checked) law12_CellStacks_own started (by kernel_rfl) (by kernel_rfl)
    (ChangeSpec.witness6 (enc := enc) (C := Try.checked) (os := os) false ⟨#[], #[.slice none 0 0, .slice none 0 0, .int .i64 0], []⟩ 8 (by kernel_rfl) (by kernel_rfl) (by kernel_rfl) (by kernel_rfl)) ?_
  intro W base args ds gs before hval hW _ hsz _
  exact M.law_contract (ss := [.sp 1 (.sl .u8), .sl .u8, .sc .i]) (G := M.noG) (c := M.law12_CellStacks_c) (tb := 4) rfl (fun ds h => by
      match ds, h with
      | [d0, d1, d2], _ => rfl) (by kernel_rfl) (by kernel_rfl) (by kernel_rfl) (by kernel_rfl) (by kernel_rfl) M.law12_CellStacks_ok law12_CellStacks_law hval hW hsz M.globOK_none
theorem cellStacks_row : Rows.CellStacksSaid :=
  OpenClaim.holds_of_wide 7 Try.f7 rfl rfl rfl rfl rfl rfl rfl ⟨rfl, rfl, rfl, rfl, rfl⟩ rfl rfl rfl rfl rfl (by kernel_rfl) (by kernel_rfl) (by kernel_rfl)
    (of_decide_eq_true (by kernel_rfl)) (by unfold Func.isWrapper; first | (rw [if_pos (by decide +kernel)]; kernel_rfl) | (rw [if_neg (by decide +kernel)]; exact ⟨rfl, rfl⟩))
    (fun os started H enc _ => law12_CellStacks_lifted os started H enc)
#print axioms cellStacks_row
end Go.Proofs.Ytpgpagmnhikpiaa
