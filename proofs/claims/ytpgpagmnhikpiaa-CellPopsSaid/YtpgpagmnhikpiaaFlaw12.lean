/- Part of the proofs: what functions of the program do: plain functions, and the walks that show it. No condition. -/
import Derived.KernelRfl
import Derived.Test.YtpgpagmnhikpiaaProg
import Derived.Test.YtpgpagmnhikpiaaLd
import Derived.Test.YtpgpagmnhikpiaaSwords
import Derived.Test.YtpgpagmnhikpiaaScellS
import Derived.Test.YtpgpagmnhikpiaaFcell
import Derived.Test.YtpgpagmnhikpiaaFref00
set_option linter.unusedVariables false
set_option linter.unusedSimpArgs false
set_option autoImplicit false
namespace Go.Proofs.Ytpgpagmnhikpiaa.M
open Go
noncomputable section
/-- the loop 0 of moneyer/moneyerlaw12.great -/
def law12_great_h0 : Nat → (List PV) → Int → Int → Option (Bool)
  | 0, _, _, _ => none
  | k + 1, l, n, i => bif decide (i < (((List.length l) : Nat) : Int)) then (if (((0 : Int) ≤ i) ∧ (i < (((List.length l) : Nat) : Int))) ∧ ((TY.chk (TY.sl EK.u8) (List.getD l (Int.toNat i) PV.nilp)) = true) then
        bif eqb (decide ((20000 : Int) < (w64 (n + (((List.length (PV.slv EK.u8 (List.getD l (Int.toNat i) PV.nilp))) : Nat) : Int))))) false then (bif bif false then true else (decide ((80 : Int) < i)) then (some true)
            else (law12_great_h0 k l (w64 (n + (((List.length (PV.slv EK.u8 (List.getD l (Int.toNat i) PV.nilp))) : Nat) : Int))) (w64 (i + (1 : Int)))))
          else (some true)
      else none)
      else (some false)
theorem law12_great_h0_q (k : Nat) (l : List PV) (n : Int) (i : Int) : law12_great_h0 (k + 1) l n i =
  (bif decide (i < (((List.length l) : Nat) : Int)) then (if (((0 : Int) ≤ i) ∧ (i < (((List.length l) : Nat) : Int))) ∧ ((TY.chk (TY.sl EK.u8) (List.getD l (Int.toNat i) PV.nilp)) = true) then
        bif eqb (decide ((20000 : Int) < (w64 (n + (((List.length (PV.slv EK.u8 (List.getD l (Int.toNat i) PV.nilp))) : Nat) : Int))))) false then (bif bif false then true else (decide ((80 : Int) < i)) then (some true)
            else (law12_great_h0 k l (w64 (n + (((List.length (PV.slv EK.u8 (List.getD l (Int.toNat i) PV.nilp))) : Nat) : Int))) (w64 (i + (1 : Int)))))
          else (some true)
      else none)
      else (some false)) := by kernel_rfl
/-- moneyer/moneyerlaw12.great -/
def law12_great (k : Nat) (l : List PV) : Option (Bool) :=
  law12_great_h0 k l (0 : Int) (0 : Int)
theorem law12_great_q (k : Nat) (l : List PV) : law12_great k l = (law12_great_h0 k l (0 : Int) (0 : Int)) := by kernel_rfl
theorem law12_great_spec (l : List PV) (hp : cellsW l = true) : ∃ k, law12_great k l = some (greatS l) := by
  show Ev (fun k => law12_great k l) _
  refine Ev.same (fun k => law12_great_q k l) ?_
  have gen : ∀ (r : List PV) (n i : Nat), r = l.drop i → i + r.length = l.length → n ≤ 20000 → i ≤ 81 → Ev (fun k => law12_great_h0 k l ((n : Nat) : Int) ((i : Nat) : Int)) (greatGo r n i) := by
    intro r
    induction r with
    | nil =>
      intro n i _ hi hn hi2
      refine Ev.done fun k => ?_
      rw [List.length_nil] at hi
      rw [law12_great_h0_q, bif_neg (by omega)]
      rfl
    | cons x r ih =>
      intro n i hr hi hn hi2
      rw [List.length_cons] at hi
      have hx : l.getD i .nilp = x := by
        have : (l.drop i)[0]? = some x := by rw [← hr]; rfl
        rw [List.getElem?_drop, Nat.add_zero] at this
        simp [List.getD, this]
      have hw : isCellW x = true := by
        unfold cellsW at hp
        rw [List.all_eq_true] at hp
        refine hp x (List.mem_of_mem_drop (i := i) ?_)
        rw [← hr]; simp
      obtain ⟨ys, e, hy⟩ := isCellW_inv hw
      subst e
      have e2 : w64 (((n : Nat) : Int) + ((ys.length : Nat) : Int)) = ((n + ys.length : Nat) : Int) := w64_add (by omega)
      have step : ∀ k, law12_great_h0 (k + 1) l ((n : Nat) : Int) ((i : Nat) : Int) = if 20000 < n + ys.length ∨ 80 < i then some true else law12_great_h0 k l ((n + ys.length : Nat) : Int) (((i + 1 : Nat)) : Int) := by
        intro k
        rw [law12_great_h0_q, bif_pos (by omega), Int.toNat_natCast, hx, if_pos ⟨by omega, rfl⟩]
        show (bif eqb (decide ((20000 : Int) < w64 (((n : Nat) : Int) + ((ys.length : Nat) : Int)))) false then _ else _) = _
        rw [eqb_f, e2]
        by_cases h1 : 20000 < n + ys.length
        · rw [decide_eq_true (by omega), if_pos (.inl h1)]; rfl
        · rw [decide_eq_false (by omega), Bool.not_false, cond_true]
          by_cases h2 : 80 < i
          · rw [if_pos (.inr h2)]
            rw [cond_false, bif_pos (by omega)]
          · rw [if_neg (by omega), cond_false, bif_neg (by omega)]
            have e3 : w64 (((i : Nat) : Int) + 1) = ((i + 1 : Nat) : Int) := by rw [w64_id (by omega) (by omega)]; omega
            rw [e3]
            show law12_great_h0 k l (w64 (((n : Nat) : Int) + ((ys.length : Nat) : Int))) _ = _
            rw [e2]
      by_cases h : 20000 < n + ys.length ∨ 80 < i
      · refine Ev.done fun k => ?_
        rw [step k, if_pos h, greatGo]
        show _ = some (decide (20000 < n + ys.length ∨ 80 < i) || _)
        rw [decide_eq_true h]; rfl
      · have e4 : greatGo (PV.sl .u8 ys :: r) n i = greatGo r (n + ys.length) (i + 1) := by
          rw [greatGo]
          show (decide (20000 < n + ys.length ∨ 80 < i) || greatGo r (n + ys.length) (i + 1)) = _
          rw [decide_eq_false h]; rfl
        rw [e4]
        refine Ev.step (fun k => by rw [step k, if_neg h]) (ih (n + ys.length) (i + 1) ?_ (by omega) (by omega) (by omega))
        rw [← List.drop_drop, ← hr]; rfl
  exact gen l 0 0 rfl (by simp) (by omega) (by omega)

end
end Go.Proofs.Ytpgpagmnhikpiaa.M

namespace Go.Proofs.Ytpgpagmnhikpiaa.M
open Go
noncomputable section
/-- moneyer/moneyerlaw12.lives -/
def law12_lives  : Bool :=
  true
theorem law12_lives_q  : law12_lives  = (true) := by kernel_rfl

end
end Go.Proofs.Ytpgpagmnhikpiaa.M

namespace Go.Proofs.Ytpgpagmnhikpiaa.M
open Go
noncomputable section
set_option maxRecDepth 100000
noncomputable def law12_great_T : Tbl := []
noncomputable def law12_great_C : CfgW := mkC Try.prog noG law12_great_T 24 0 false
def law12_great_lv : Nat → List Nat := fun i => bif Nat.beq i 0 then [0, 3, 4] else []
noncomputable abbrev law12_great_b : Code := Try.f21.body.getD .skip
noncomputable abbrev law12_great_r : List ResultVar := Try.f21.results.toList
def law12_great_hs : List Nat := []

def law12_great_enc (r : Bool) : CallOut := ⟨.pv (.sc .b r), [], true, []⟩
def law12_great_s0 (l : List PV) (n : Int) (i : Int) : St := ⟨[(0, .pv (.sp 1 l)), (3, .pv (.sc .i n)), (4, .pv (.sc .i i))], []⟩
theorem law12_great_g0 (l : List PV) (n : Int) (i : Int) (Q : CallOut → Prop) : headRound law12_great_C law12_great_lv [true, true, false, true, false] law12_great_b (law12_great_s0 l n i) (fnK law12_great_C law12_great_r law12_great_hs Q) =
    (condP (decide (i < (((List.length l) : Nat) : Int))) (((((0 : Int) ≤ i) ∧ (i < (((List.length l) : Nat) : Int))) ∧ ((TY.chk (TY.sl EK.u8) (List.getD l (Int.toNat i) PV.nilp)) = true)) ∧ (condP (eqb (decide ((20000 : Int) < (w64 (n + (((List.length (PV.slv EK.u8 (List.getD l (Int.toNat i) PV.nilp))) : Nat) : Int))))) false) (condP (bif false then true else (decide ((80 : Int) < i))) (Q (law12_great_enc true)) (headP law12_great_C law12_great_lv [true, true, false, true, false] law12_great_b (law12_great_s0 l (w64 (n + (((List.length (PV.slv EK.u8 (List.getD l (Int.toNat i) PV.nilp))) : Nat) : Int))) (w64 (i + (1 : Int)))) (fnK law12_great_C law12_great_r law12_great_hs Q))) (Q (law12_great_enc true)))) (Q (law12_great_enc false))) := by kernel_rfl
theorem law12_great_k0 {r : Bool} {Q : CallOut → Prop} (hQ : Q (law12_great_enc r)) : ∀ k : Nat, (∀ (l : List PV) (n : Int) (i : Int), law12_great_h0 k l n i = some r → headP law12_great_C law12_great_lv [true, true, false, true, false] law12_great_b (law12_great_s0 l n i) (fnK law12_great_C law12_great_r law12_great_hs Q))
  | 0 => fun _ _ _ h => no_ok h
  | k + 1 => fun l n i h => headP_step (Eq.mpr (law12_great_g0 l n i Q) (have h := (law12_great_h0_q k l n i).symm.trans h; cond_ok h (fun h => ite_ok h fun hc0 h => cond_ok h (fun h => cond_ok h (fun h => ret_ok (Q := Q) (e := law12_great_enc) h hQ) (fun h => (law12_great_k0 hQ k) _ _ _ h)) (fun h => ret_ok (Q := Q) (e := law12_great_enc) h hQ)) (fun h => ret_ok (Q := Q) (e := law12_great_enc) h hQ)))
theorem law12_great_e (l : List PV) (Q : CallOut → Prop) : evalFnP law12_great_C law12_great_lv law12_great_r law12_great_hs law12_great_b [.pv (.sp 1 l)] [] Q =
    (headP law12_great_C law12_great_lv [true, true, false, true, false] law12_great_b (law12_great_s0 l (0 : Int) (0 : Int)) (fnK law12_great_C law12_great_r law12_great_hs Q)) := by kernel_rfl
theorem law12_great_w {k : Nat} (l : List PV) {r} {Q : CallOut → Prop} (h : law12_great k l = some r) (hQ : Q (law12_great_enc r)) : evalFnP law12_great_C law12_great_lv law12_great_r law12_great_hs law12_great_b [.pv (.sp 1 l)] [] Q :=
  Eq.mpr (law12_great_e l Q) (have h := (law12_great_q k l).symm.trans h; (law12_great_k0 hQ _) _ _ _ h)
def law12_great_c : Ans
  | [.pv (.sp 1 l)], [] => some (some (cellsW l = true), law12_great_enc (greatS l))
  | _, _ => none
theorem law12_great_tok : TblOK Try.prog noG law12_great_T := .nil
theorem law12_great_ok : FnOK Try.prog noG 21 (unW law12_great_c) := by
  refine FnOK.ofC (T := law12_great_T) (nt := 24) (np := 0) (nf := false) (hs := law12_great_hs) (fn := Try.f21) (body := law12_great_b) law12_great_tok (by kernel_rfl) (by kernel_rfl) (by kernel_rfl) (by kernel_rfl) (c := law12_great_c) (lv := law12_great_lv) ?_
  intro xs mem p out h hp
  unfold law12_great_c at h
  split at h
  · cases h
    obtain ⟨k, hk⟩ := law12_great_spec _ hp
    exact law12_great_w _ hk rfl
  · cases h
end
end Go.Proofs.Ytpgpagmnhikpiaa.M

namespace Go.Proofs.Ytpgpagmnhikpiaa.M
open Go
noncomputable section
set_option maxRecDepth 100000
noncomputable def law12_lives_T : Tbl := [(12, [], cell_Number_c), (9, [], cell_Two_c), (22, [false], cell_Push_c), (17, [], cell_True_c), (13, [], cell_Bytes_c), (14, [], ref00_Same_c)]
noncomputable def law12_lives_C : CfgW := mkC Try.prog noG law12_lives_T 62 0 false
def law12_lives_lv : Nat → List Nat := fun i => []
noncomputable abbrev law12_lives_b : Code := Try.f11.body.getD .skip
noncomputable abbrev law12_lives_r : List ResultVar := Try.f11.results.toList
def law12_lives_hs : List Nat := []

def law12_lives_enc (r : Bool) : CallOut := ⟨.pv (.sc .b r), [], true, []⟩
theorem law12_lives_e  (Q : CallOut → Prop) : evalFnP law12_lives_C law12_lives_lv law12_lives_r law12_lives_hs law12_lives_b [] [] Q =
    (((I64 (4611686018427387904 : Int)) ∧ (I64 (2 : Int))) ∧ (((cellsB ([] : List PV)) = true) ∧ ((((0 : Int) ≤ (0 : Int)) ∧ ((0 : Int) < (((List.length ([(PV.sl EK.u8 ([(5 : UInt8)] : List UInt8))] : List PV)) : Nat) : Int))) ∧ (((TY.chk (TY.sl EK.u8) (PV.sl EK.u8 ([(5 : UInt8)] : List UInt8))) = true) ∧ (((List.length (PV.slv EK.u8 (PV.sl EK.u8 ([(5 : UInt8)] : List UInt8)))) ≤ (1152921504606846976 : Nat)) ∧ ((I64 (-(1 : Int))) ∧ (((List.length (numB (-(1 : Int)))) ≤ (1152921504606846976 : Nat)) ∧ (Q (law12_lives_enc true))))))))) := by kernel_rfl
theorem law12_lives_w  {Q : CallOut → Prop} (h : Q (law12_lives_enc (law12_lives ))) : evalFnP law12_lives_C law12_lives_lv law12_lives_r law12_lives_hs law12_lives_b [] [] Q :=
  Eq.mpr (law12_lives_e  Q) (have h := Eq.mp (congrArg (fun r => Q (law12_lives_enc r)) (law12_lives_q )) h; ⟨by decide +kernel, ⟨by decide +kernel, ⟨by decide +kernel, ⟨by decide +kernel, ⟨by decide +kernel, ⟨by decide +kernel, ⟨by decide +kernel, h⟩⟩⟩⟩⟩⟩⟩)
def law12_lives_c : Ans
  | [], [] => some (none, law12_lives_enc (law12_lives ))
  | _, _ => none
theorem law12_lives_tok : TblOK Try.prog noG law12_lives_T := .cons ⟨by kernel_rfl, cell_Number_ok⟩ (.cons ⟨by kernel_rfl, cell_Two_ok⟩ (.cons ⟨by kernel_rfl, cell_Push_ok⟩ (.cons ⟨by kernel_rfl, cell_True_ok⟩ (.cons ⟨by kernel_rfl, cell_Bytes_ok⟩ (.cons ⟨by kernel_rfl, ref00_Same_ok⟩ (.nil))))))
theorem law12_lives_ok : FnOK Try.prog noG 11 (unW law12_lives_c) := by
  refine FnOK.ofC (T := law12_lives_T) (nt := 62) (np := 0) (nf := false) (hs := law12_lives_hs) (fn := Try.f11) (body := law12_lives_b) law12_lives_tok (by kernel_rfl) (by kernel_rfl) (by kernel_rfl) (by kernel_rfl) (c := law12_lives_c) (lv := law12_lives_lv) ?_
  intro xs mem p out h hp
  unfold law12_lives_c at h
  split at h
  · cases h
    exact law12_lives_w  rfl
  · cases h
end
end Go.Proofs.Ytpgpagmnhikpiaa.M
