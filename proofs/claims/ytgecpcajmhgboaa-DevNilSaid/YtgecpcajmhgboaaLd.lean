/- Part of the proofs: a reckoning of code on values by names, shown sound against the model. No condition. -/
import Derived.LoopN
import Derived.Scope
import Derived.Test.YtgecpcajmhgboaaLc
set_option linter.unusedVariables false
set_option linter.unusedSimpArgs false
set_option autoImplicit false
/- What an operation hangs on. -/

namespace Go.Proofs.Ytgecpcajmhgboaa.M
open Go

def cutNames (c : List (Nat × Option (List PE))) : List Nat := c.map (·.1)
def Out.writes (o : Out) : List Nat := o.upd.map (·.1) ++ cutNames o.cut

theorem keepm_of {c : List (Nat × Option (List PE))} {v : Bool} {n : Nat} {π : List PE} (h : n ∉ cutNames c) : keepm c v n π = true := by
  unfold keepm
  rw [List.all_eq_true]
  intro e he
  have hne : n ≠ e.1 := fun q => h (by rw [q]; exact List.mem_map_of_mem he)
  have : Nat.beq n e.1 = false := by
    cases hq : Nat.beq n e.1 with
    | false => rfl
    | true => exact absurd (nbeq.1 hq) hne
  obtain ⟨a, b⟩ := e
  cases b <;> simp only at this ⊢ <;> rw [this] <;> rfl

mutual
theorem A.all_of {c : List (Nat × Option (List PE))} : ∀ (x : A), (∀ n ∈ x.names, n ∉ cutNames c) → x.all (keepm c) = true
  | .pv _, _ => rfl
  | .rp _, _ => rfl
  | .und, _ => rfl
  | .bad, _ => rfl
  | .p n π, h => by rw [A.all]; exact keepm_of (h n (by simp [A.names]))
  | .pr n π q l, h => by rw [A.all]; exact keepm_of (h n (by simp [A.names]))
  | .o n, h => by rw [A.all]; exact keepm_of (h n (by simp [A.names]))
  | .vw n π q l d, h => by rw [A.all]; exact keepm_of (h n (by simp [A.names]))
  | .st fs, h => by rw [A.all]; exact A.allL_of fs (by simpa [A.names] using h)
  | .tup fs, h => by rw [A.all]; exact A.allL_of fs (by simpa [A.names] using h)
  | .fn _ fs, h => by rw [A.all]; exact A.allL_of fs (by simpa [A.names] using h)
theorem A.allL_of {c : List (Nat × Option (List PE))} : ∀ (xs : List A), (∀ n ∈ A.namesL xs, n ∉ cutNames c) → A.allL (keepm c) xs = true
  | [], _ => rfl
  | x :: xs, h => by
    rw [A.allL, A.all_of x (fun n hn => h n (by simp [A.namesL, hn])), A.allL_of xs (fun n hn => h n (by simp [A.namesL, hn]))]; rfl
end
theorem Blk.all_of {c : List (Nat × Option (List PE))} (b : Blk) (h : ∀ n ∈ b.names, n ∉ cutNames c) : b.all (keepm c) = true := by
  cases b with
  | box x => exact A.all_of x h
  | row _ _ => rfl
  | map _ => rfl

/-- memory is the same at names -/
def Same (L L' : Nat → Option Blk) (ns : List Nat) : Prop := ∀ n ∈ ns, L' n = L n

section
variable {P : Program} {L L' : Nat → Option Blk}

theorem opNew_congr {d : Nat} (h : L' d = L d) (b : Blk) (x : A) : opNew L' d b x = opNew L d b x := by unfold opNew; rw [h]
theorem readSl_congr {x : A} (h : Same L L' x.names) : readSl L' x = readSl L x := by
  cases x with
  | pv p => cases p <;> rfl
  | rp p => cases p <;> rfl
  | p n π => first | rfl | (have := h n (by simp [A.names]); simp only [readSl, this])
  | pr n π q l => first | rfl | (have := h n (by simp [A.names]); simp only [readSl, this])
  | o n => first | rfl | (have := h n (by simp [A.names]); simp only [readSl, this])
  | vw n π q l c => first | rfl | (have := h n (by simp [A.names]); simp only [readSl, this])
  | _ => rfl
theorem opLoad_congr {t : TypeId} {x : A} (h : Same L L' x.names) : opLoad P L' t x = opLoad P L t x := by
  cases x with
  | pv p => cases p <;> rfl
  | rp p => cases p <;> rfl
  | p n π => first | rfl | (have := h n (by simp [A.names]); simp only [opLoad, this])
  | pr n π q l => first | rfl | (have := h n (by simp [A.names]); simp only [opLoad, this])
  | o n => first | rfl | (have := h n (by simp [A.names]); simp only [opLoad, this])
  | vw n π q l c => first | rfl | (have := h n (by simp [A.names]); simp only [opLoad, this])
  | _ => rfl
theorem opStore_congr {t : TypeId} {x y : A} (h : Same L L' x.names) : opStore P L' t x y = opStore P L t x y := by
  cases x with
  | pv p => cases p <;> rfl
  | rp p => cases p <;> rfl
  | p n π => first | rfl | (have := h n (by simp [A.names]); simp only [opStore, this])
  | pr n π q l => first | rfl | (have := h n (by simp [A.names]); simp only [opStore, this])
  | o n => first | rfl | (have := h n (by simp [A.names]); simp only [opStore, this])
  | vw n π q l c => first | rfl | (have := h n (by simp [A.names]); simp only [opStore, this])
  | _ => rfl
theorem opIndexAddr_congr {t : TypeId} {x : A} {j : Int} (h : Same L L' x.names) : opIndexAddr P L' t x j = opIndexAddr P L t x j := by
  cases x with
  | pv p => cases p <;> rfl
  | rp p => cases p <;> rfl
  | p n π => first | rfl | (have := h n (by simp [A.names]); simp only [opIndexAddr, this])
  | pr n π q l => first | rfl | (have := h n (by simp [A.names]); simp only [opIndexAddr, this])
  | o n => first | rfl | (have := h n (by simp [A.names]); simp only [opIndexAddr, this])
  | vw n π q l c => first | rfl | (have := h n (by simp [A.names]); simp only [opIndexAddr, this])
  | _ => rfl
theorem opFieldAddr_congr {t : TypeId} {x : A} {j : Nat} (h : Same L L' x.names) : opFieldAddr P L' t x j = opFieldAddr P L t x j := by
  cases x with
  | pv p => cases p <;> rfl
  | rp p => cases p <;> rfl
  | p n π => first | rfl | (have := h n (by simp [A.names]); simp only [opFieldAddr, this])
  | pr n π q l => first | rfl | (have := h n (by simp [A.names]); simp only [opFieldAddr, this])
  | o n => first | rfl | (have := h n (by simp [A.names]); simp only [opFieldAddr, this])
  | vw n π q l c => first | rfl | (have := h n (by simp [A.names]); simp only [opFieldAddr, this])
  | _ => rfl
theorem opSlice_congr {t : TypeId} {x : A} {lo hi mx : Option Int} (h : Same L L' x.names) : opSlice P L' t x lo hi mx = opSlice P L t x lo hi mx := by
  cases x with
  | pv p => cases p <;> rfl
  | rp p => cases p <;> rfl
  | p n π => first | rfl | (have := h n (by simp [A.names]); simp only [opSlice, this])
  | pr n π q l => first | rfl | (have := h n (by simp [A.names]); simp only [opSlice, this])
  | o n => first | rfl | (have := h n (by simp [A.names]); simp only [opSlice, this])
  | vw n π q l c => first | rfl | (have := h n (by simp [A.names]); simp only [opSlice, this])
  | _ => rfl
theorem opCopy_congr {t : TypeId} {x y : A} (h : Same L L' x.names) (h2 : Same L L' y.names) : opCopy P L' t x y = opCopy P L t x y := by
  unfold opCopy
  rw [readSl_congr h2]
  cases x with
  | o n => simp only; rw [h n (by simp [A.names])]
  | vw n π off len cap => cases π <;> (simp only; rw [h n (by simp [A.names])])
  | _ => rfl
theorem opConvSl_congr {s t : TypeId} {x : A} (h : Same L L' x.names) : opConvSl P L' s t x = opConvSl P L s t x := by
  cases x with
  | o n => simp only [opConvSl]; rw [h n (by simp [A.names])]
  | _ => rfl
theorem opS2A_congr {t : TypeId} {x : A} (h : Same L L' x.names) : opS2A P L' t x = opS2A P L t x := by
  cases x with
  | pv p => cases p <;> rfl
  | rp p => cases p <;> rfl
  | p n π => first | rfl | (have := h n (by simp [A.names]); simp only [opS2A, this])
  | pr n π q l => first | rfl | (have := h n (by simp [A.names]); simp only [opS2A, this])
  | o n => first | rfl | (have := h n (by simp [A.names]); simp only [opS2A, this])
  | vw n π q l c => first | rfl | (have := h n (by simp [A.names]); simp only [opS2A, this])
  | _ => rfl
theorem lenA_congr {x : A} (h : Same L L' x.names) : lenA L' x = lenA L x := by
  cases x with
  | pv p => cases p <;> rfl
  | rp p => cases p <;> rfl
  | p n π => first | rfl | (have := h n (by simp [A.names]); simp only [lenA, this])
  | pr n π q l => first | rfl | (have := h n (by simp [A.names]); simp only [lenA, this])
  | o n => first | rfl | (have := h n (by simp [A.names]); simp only [lenA, this])
  | vw n π q l c => first | rfl | (have := h n (by simp [A.names]); simp only [lenA, this])
  | _ => rfl
theorem capA_congr {x : A} (h : Same L L' x.names) : capA L' x = capA L x := by
  cases x with
  | o n => simp only [capA]; rw [h _ (by simp [A.names])]
  | vw n π q l c => cases c <;> rfl
  | _ => rfl
theorem opLen_congr {t : TypeId} {x : A} (h : Same L L' x.names) : opLen P L' t x = opLen P L t x := by unfold opLen; rw [lenA_congr h]
theorem opCap_congr {t : TypeId} {x : A} (h : Same L L' x.names) : opCap P L' t x = opCap P L t x := by unfold opCap; rw [capA_congr h]
theorem appended_congr {e : TypeId} {z : Bool} {y : A} (h : Same L L' y.names) : appended P L' e z y = appended P L e z y := by unfold appended; rw [readSl_congr h]
theorem opAppend_congr {d : Nat} {t t1 : TypeId} {nilc : Bool} {x y : A} (hd : L' d = L d) (hx : Same L L' x.names) (hy : Same L L' y.names) : opAppend P L' d t t1 nilc x y = opAppend P L d t t1 nilc x y := by
  unfold opAppend
  split
  · simp only [readSl_congr hx, appended_congr hy, opNew_congr hd, hd]
  · rfl
theorem opMakeSlice_congr {d : Nat} {t : TypeId} {l c : Int} {ex : Bool} (hd : L' d = L d) : opMakeSlice P L' d t l c ex = opMakeSlice P L d t l c ex := by
  unfold opMakeSlice
  simp only [opNew_congr hd]
theorem opBuildSlice_congr {d : Nat} {t : TypeId} {n : Nat} {ps : List (Nat × A)} (hd : L' d = L d) : opBuildSlice P L' d t n ps = opBuildSlice P L d t n ps := by
  unfold opBuildSlice
  simp only [opNew_congr hd]
theorem passA_congr {x : A} (h : Same L L' x.names) : passA L' x = passA L x := by
  cases x with
  | p n π => simp only [passA]; rw [h _ (by simp [A.names])]
  | pr n π q l => simp only [passA]; rw [h _ (by simp [A.names])]
  | o n => simp only [passA]; rw [readSl_congr h]
  | vw n π q l c => simp only [passA]; rw [readSl_congr h]
  | fn f cs => cases cs <;> rfl
  | _ => rfl
theorem passAs_congr : ∀ {xs : List A}, (∀ x ∈ xs, Same L L' x.names) → passAs L' xs = passAs L xs
  | [], _ => rfl
  | x :: xs, h => by
    have h2 : ∀ y ∈ xs, Same L L' y.names := fun y hy => h y (List.mem_cons_of_mem _ hy)
    simp only [passAs, passA_congr (h x (by simp)), passAs_congr h2]

/-- the operands' values are the same where the slots are -/
theorem evalF_congr {G : Nat → Option PV} {e e' : Nat → A} {x : Operand} (h : ∀ t, x = .tmp t → e' t = e t) : evalF G e' x = evalF G e x := by
  cases x with
  | tmp t => exact h t rfl
  | _ => rfl

theorem opOut_congr {ρ ρ' : Operand → A} {d : Nat} {o : Oper} (hρ : ∀ x ∈ o.op.operands, ρ' x = ρ x) (hd : L' d = L d) (hL : ∀ x ∈ o.op.operands, Same L L' (ρ x).names) : opOut P L' d ρ' o = opOut P L d ρ o := by
  have parts : ∀ ps : Array (Nat × Operand), (∀ x ∈ (ps.toList.map (·.2)).toArray, ρ' x = ρ x) → (ps.toList.map fun p => (p.1, ρ' p.2)) = ps.toList.map fun p => (p.1, ρ p.2) := by
    intro ps h
    refine List.map_congr_left fun p hp => ?_
    rw [h p.2 (by simp; exact ⟨p.1, by simpa using hp⟩)]
  have idx : ∀ z : Option Operand, (∀ x ∈ z, ρ' x = ρ x) → idxO ρ' z = idxO ρ z := by
    intro z h
    cases z with
    | none => rfl
    | some x => simp only [idxO]; rw [h x rfl]
  unfold opOut
  cases hop : o.op with
  | move x => simp only [hop, Op.operands] at hρ hL ⊢; rw [hρ x (by simp)]; simp only [opNew_congr hd]
  | assign x => simp only [hop, Op.operands] at hρ hL ⊢; rw [hρ x (by simp)]; simp only [opNew_congr hd]
  | pick c x y => simp only [hop, Op.operands] at hρ hL ⊢; rw [hρ c (by simp), hρ x (by simp), hρ y (by simp)]
  | alloc t => simp only [opAlloc, opNew_congr hd]
  | box t x => simp only [hop, Op.operands] at hρ hL ⊢; rw [hρ x (by simp)]; simp only [opBox, opNew_congr hd]
  | build t ps => simp only [hop, Op.operands] at hρ hL ⊢; rw [parts ps hρ]
  | buildSlice t n ps => simp only [hop, Op.operands] at hρ hL ⊢; rw [parts ps hρ, opBuildSlice_congr hd]
  | load t x => simp only [hop, Op.operands] at hρ hL ⊢; rw [hρ x (by simp), opLoad_congr (hL x (by simp))]
  | store t x y => simp only [hop, Op.operands] at hρ hL ⊢; rw [hρ x (by simp), hρ y (by simp), opStore_congr (hL x (by simp))]
  | nilCheck x => simp only [hop, Op.operands] at hρ hL ⊢; rw [hρ x (by simp)]
  | binOp op t x y z => simp only [hop, Op.operands] at hρ hL ⊢; rw [hρ x (by simp), hρ y (by simp)]
  | unOp op t x => simp only [hop, Op.operands] at hρ hL ⊢; rw [hρ x (by simp)]
  | convert s t x => simp only [hop, Op.operands] at hρ hL ⊢; rw [hρ x (by simp), opConvSl_congr (hL x (by simp))]
  | sliceToArrayPointer t x => simp only [hop, Op.operands] at hρ hL ⊢; rw [hρ x (by simp), opS2A_congr (hL x (by simp))]
  | makeSlice t l c => simp only [hop, Op.operands] at hρ hL ⊢; rw [hρ l (by simp), hρ c (by simp)]; simp only [opMakeSlice_congr hd]
  | slice t x lo hi mx =>
    simp only [hop, Op.operands] at hρ hL ⊢
    rw [hρ x (by simp), idx lo (fun z hz => hρ z (by simp [Option.mem_def.1 hz])), idx hi (fun z hz => hρ z (by simp [Option.mem_def.1 hz])), idx mx (fun z hz => hρ z (by simp [Option.mem_def.1 hz]))]
    simp only [opSlice_congr (hL x (by simp))]
  | fieldAddr t x f => simp only [hop, Op.operands] at hρ hL ⊢; rw [hρ x (by simp), opFieldAddr_congr (hL x (by simp))]
  | field t x f => simp only [hop, Op.operands] at hρ hL ⊢; rw [hρ x (by simp)]
  | indexAddr t x i => simp only [hop, Op.operands] at hρ hL ⊢; rw [hρ x (by simp), hρ i (by simp)]; simp only [opIndexAddr_congr (hL x (by simp))]
  | index t x i => simp only [hop, Op.operands] at hρ hL ⊢; rw [hρ x (by simp), hρ i (by simp)]
  | extract x i => simp only [hop, Op.operands] at hρ hL ⊢; rw [hρ x (by simp)]
  | makeFunc fn first caps =>
    simp only [hop, Op.operands] at hρ hL ⊢
    have hm : caps.toList.map ρ' = caps.toList.map ρ := List.map_congr_left fun x hx => hρ x (by simp only [Array.mem_append]; right; simpa using hx)
    cases fn <;> simp only [hm]
  | call c =>
    simp only [hop, Op.operands, Call.operands] at hρ hL ⊢
    cases hc : c.callee with
    | builtin b =>
      simp only
      have hρ' : ∀ x ∈ c.args.toList, ρ' x = ρ x := fun x hx => hρ x (by simp [hc]; simpa using hx)
      have hL' : ∀ x ∈ c.args.toList, Same L L' (ρ x).names := fun x hx => hL x (by simp [hc]; simpa using hx)
      generalize c.args.toList = xs at *
      generalize c.argTypes.toList = ts at *
      unfold opBuiltin
      split
      · rename_i x y t t1
        rw [hρ' x (by simp), hρ' y (by simp), opAppend_congr hd (hL' x (by simp)) (hL' y (by simp))]
      · rename_i x t
        rw [hρ' x (by simp), opLen_congr (hL' x (by simp))]
      · rename_i x t
        rw [hρ' x (by simp), opCap_congr (hL' x (by simp))]
      · rename_i x y t t2
        rw [hρ' x (by simp), hρ' y (by simp), opCopy_congr (hL' x (by simp)) (hL' y (by simp))]
      · rename_i x y
        rw [hρ' x (by simp), hρ' y (by simp)]
      · rename_i x y
        rw [hρ' x (by simp), hρ' y (by simp)]
      · rfl
    | _ => rfl
  | _ => rfl

theorem opOutF_congr {ρ ρ' : Operand → A} {d : Nat} {o : Oper} {out : Out} (h : opOutF P L d ρ o = some out) (hρ : ∀ x ∈ o.op.operands, ρ' x = ρ x) (hd : L' d = L d) (hL : ∀ x ∈ o.op.operands, Same L L' (ρ x).names)
    (hw : ∀ n ∈ out.writes, L' n = L n) : opOutF P L' d ρ' o = some out := by
  unfold opOutF at h ⊢
  cases hsi : siB o with
  | true =>
    rw [hsi, cond_true] at h
    rw [cond_true, opSI_congr hρ]
    exact h
  | false =>
  rw [hsi, cond_false] at h
  rw [cond_false]
  have hn : nilN L' d o = nilN L d o := by unfold nilN; rw [hd]
  rw [hn]
  cases hnl : nilN L d o with
  | true =>
    rw [hnl, cond_true] at h
    rw [cond_true]
    have := nilN_writes hnl h
    rw [opOut_congr hρ (hw (d + 30000) (by simp only [Out.writes, List.mem_append]; exact .inl this)) hL]
    exact h
  | false =>
  rw [hnl, cond_false] at h
  rw [cond_false]
  rw [fzN_congr (L := L) (L' := L') hρ hL]
  split
  · rename_i e
    rw [e] at h
    rw [opOut_congr hρ hd hL]; exact h
  · rename_i n r e
    rw [e] at h
    simp only at h
    generalize n :: r = ns at h
    obtain ⟨o1, h1, h⟩ := Option.bind_eq_some_iff.1 h
    split at h
    · rename_i hok
      cases h
      have hns : ∀ n ∈ ns, L' n = L n := fun n hn => hw n (by simp [Out.writes, cutNames, fzC, hn])
      have hup : ∀ p ∈ o1.upd, L' p.1 = L p.1 := fun p hp => hw p.1 (by simp only [Out.writes, List.mem_append]; exact .inl (List.mem_map.2 ⟨p, hp, rfl⟩))
      refine Option.bind_eq_some_iff.2 ⟨o1, ?_, ?_⟩
      · rw [← h1]
        refine opOut_congr (L := cutL ns L) (L' := cutL ns L') (fun x hx => ?_) ?_ (fun x hx n hn => ?_)
        · rw [hρ x hx]; exact fzA_congr (hL x hx)
        · unfold cutL; rw [hd]
        · unfold cutL; rw [hL x hx n (fzA_names n hn)]
      · have hok' : fzOK L' ns o1 = true := by
          unfold fzOK at hok ⊢
          simp only [Bool.and_eq_true, List.all_eq_true] at hok ⊢
          exact ⟨⟨fun n hn => by rw [hns n hn]; exact hok.1.1 n hn, fun p hp => by rw [hup p hp]; exact hok.1.2 p hp⟩, hok.2⟩
        rw [if_pos hok']
    · cases h
theorem nilOf_names (P : Program) (t : TypeId) : (nilOf P t).names = [] := by
  rcases nilOf_cases P t with ⟨k, h⟩ | ⟨s, h⟩ | h <;> rw [h] <;> rfl
theorem argsOf_mem {P : Program} {ρ : Operand → A} : ∀ {xs : List Operand} {ts : List TypeId} {y : A}, y ∈ argsOf P ρ xs ts → (∃ x ∈ xs, y = ρ x) ∨ y.names = []
  | [], _, y, h => by cases h
  | x :: xs, [], y, h => by
    rcases List.mem_cons.1 h with h | h
    · exact .inl ⟨x, by simp, h⟩
    · exact (argsOf_mem h).imp (fun ⟨z, hz, e⟩ => ⟨z, by simp [hz], e⟩) id
  | x :: xs, t :: ts, y, h => by
    rcases List.mem_cons.1 h with h | h
    · cases hn : isNilSl x with
      | true => rw [hn] at h; subst h; exact .inr (nilOf_names P t)
      | false => rw [hn] at h; exact .inl ⟨x, by simp, h⟩
    · exact (argsOf_mem h).imp (fun ⟨z, hz, e⟩ => ⟨z, by simp [hz], e⟩) id

theorem mem_addN {n : Nat} : ∀ {l ns : List Nat}, n ∈ addN ns l ↔ n ∈ ns ∨ n ∈ l
  | [], ns => by simp [addN]
  | m :: r, ns => by
    unfold addN
    cases hq : memN m ns with
    | true =>
      simp only [cond_true]
      rw [mem_addN, List.mem_cons]
      constructor
      · rintro (h | h)
        · exact .inl h
        · exact .inr (.inr h)
      · rintro (h | h | h)
        · exact .inl h
        · subst h; exact .inl (memN_iff.1 hq)
        · exact .inr h
    | false =>
      simp only [cond_false]
      rw [mem_addN]
      simp [or_assoc]
theorem closeN_congr {ns : List Nat} (h : ∀ n ∈ ns, L' n = L n) : closeN L' ns = closeN L ns := by
  unfold closeN
  have : ns.flatMap (bnames L') = ns.flatMap (bnames L) := by
    induction ns with
    | nil => rfl
    | cons n r ih =>
      rw [List.flatMap_cons, List.flatMap_cons, ih fun m hm => h m (by simp [hm])]
      unfold bnames
      rw [h n (by simp)]
  rw [this]
theorem canonF_congr {f : Nat → Nat} : ∀ {l : List Nat}, (∀ n ∈ l, L' n = L n) → canonF f L' l = canonF f L l
  | [], _ => rfl
  | n :: r, h => by
    unfold canonF
    rw [h n (by simp), canonF_congr fun m hm => h m (by simp [hm])]
theorem restr_congr {rn : List Nat} (h : ∀ n ∈ rn, L' n = L n) : restr rn L' = restr rn L := by
  funext n
  unfold restr
  cases hq : memN n rn with
  | false => rfl
  | true => exact h n (memN_iff.1 hq)
theorem mixA_congr {ns rn : List Nat} (h : restr rn L' = restr rn L) : ∀ (ms : List Bool) (xs : List A), mixA ns rn L' ms xs = mixA ns rn L ms xs
  | [], [] => rfl
  | _ :: _, [] => rfl
  | true :: ms, x :: xs => by simp only [mixA]; rw [mixA_congr h ms xs]
  | false :: ms, x :: xs => by simp only [mixA]; rw [mixA_congr h ms xs, h]
  | [], x :: xs => by simp only [mixA]; rw [mixA_congr h [] xs, h]
theorem handOK_congr {ns : List Nat} (h : ∀ n ∈ ns, L' n = L n) : handOK L' ns = handOK L ns := by
  unfold handOK
  induction ns with
  | nil => rfl
  | cons n r ih =>
    rw [List.all_cons, List.all_cons, h n (by simp)]
    have : ∀ (q : List Nat), True := fun _ => trivial
    congr 1
    clear this
    have gen : ∀ (is : Bool → Nat → List PE → Bool) (l : List Nat), (∀ m ∈ l, L' m = L m) → (l.all fun n => match L' n with | some b => b.all is | none => false) = l.all fun n => match L n with | some b => b.all is | none => false := by
      intro is l
      induction l with
      | nil => intro _; rfl
      | cons m l ih => intro hl; rw [List.all_cons, List.all_cons, hl m (by simp), ih fun q hq => hl q (by simp [hq])]
    exact gen _ r fun m hm => h m (by simp [hm])
theorem rootOf_congr {bl : List (Nat × Blk)} {x y : A} (h : ∀ n ∈ x.names, L' n = L n) : rootOf L' bl x y = rootOf L bl x y := by
  cases x with
  | o n => cases y <;> simp only [rootOf]; rw [h n (by simp [A.names])]
  | p n π => cases y <;> simp only [rootOf]; rw [h n (by simp [A.names])]
  | _ => rfl
theorem rootMap_congr {r : CallOut} : ∀ (i : Nat) (ms : List Bool) (xs : List A), (∀ x ∈ pickH ms xs, ∀ n ∈ x.names, L' n = L n) → rootMap L' r i ms xs = rootMap L r i ms xs
  | i, true :: ms, x :: xs, h => by
    unfold rootMap
    rw [rootMap_congr (i + 1) ms xs fun y hy => h y (by simp [pickH, hy])]
    cases lk r.roots i with
    | none => rfl
    | some y =>
      simp only [Option.bind_some]
      rw [rootOf_congr (h x (by simp [pickH]))]
  | i, false :: ms, x :: xs, h => by
    unfold rootMap
    rw [rootMap_congr (i + 1) ms xs fun y hy => h y (by simpa [pickH] using hy)]
  | _, [], _, _ => by simp [rootMap]
  | _, true :: _, [], _ => by simp [rootMap]
  | _, false :: _, [], _ => by simp [rootMap]
theorem pickH_mem {x : A} : ∀ {ms : List Bool} {xs : List A}, x ∈ pickH ms xs → x ∈ xs
  | true :: ms, y :: xs, h => by
    rcases List.mem_cons.1 h with h | h
    · simp [h]
    · simp [pickH_mem h]
  | false :: ms, y :: xs, h => by simp [pickH_mem (ms := ms) (xs := xs) h]
  | [], _, h => by simp [pickH] at h
  | true :: _, [], h => by simp [pickH] at h
  | false :: _, [], h => by simp [pickH] at h
theorem pickR_mem {x : A} : ∀ {ms : List Bool} {xs : List A}, x ∈ pickR ms xs → x ∈ xs
  | true :: ms, y :: xs, h => by simp [pickR_mem (ms := ms) (xs := xs) h]
  | false :: ms, y :: xs, h => by
    rcases List.mem_cons.1 h with h | h
    · simp [h]
    · simp [pickR_mem h]
  | [], xs, h => by simpa [pickR] using h
  | true :: _, [], h => by simp [pickR] at h
  | false :: _, [], h => by simp [pickR] at h
theorem cutOf_fst {rm : List (Nat × Nat)} {n : Nat} : (cutOf L rm n).1 = n := by
  unfold cutOf
  cases memN n (rm.map (·.2)) <;> rfl

theorem opCallM_congr {d : Nat} {ms : List Bool} {cs : List A → List (Nat × Blk) → Option CallOut} {xs : List A} {out : Out} (h : opCallM L d ms cs xs = some out) (hL : ∀ x ∈ xs, Same L L' x.names) (hw : ∀ n ∈ out.writes, L' n = L n) :
    opCallM L' d ms cs xs = some out := by
  have base : ∀ n ∈ addN [] ((pickH ms xs).flatMap A.names), L' n = L n := by
    intro n hn
    rw [mem_addN] at hn
    rcases hn with hn | hn
    · cases hn
    · obtain ⟨x, hx, hn⟩ := List.mem_flatMap.1 hn
      exact hL x (pickH_mem hx) n hn
  have hrn : ∀ n ∈ readN ms xs, L' n = L n := by
    intro n hn
    unfold readN at hn
    rw [mem_addN] at hn
    rcases hn with hn | hn
    · cases hn
    · obtain ⟨x, hx, hn⟩ := List.mem_flatMap.1 hn
      exact hL x (pickR_mem hx) n hn
  unfold opCallM at h
  split at h
  · rename_i hc
    obtain ⟨ys, hys, h⟩ := Option.bind_eq_some_iff.1 h
    obtain ⟨r, hr, h⟩ := Option.bind_eq_some_iff.1 h
    have hns : ∀ n ∈ handN L ms xs, L' n = L n := by
      intro n hn
      refine hw n ?_
      unfold opBack at h
      split at h
      · cases h
        simp only [Out.writes, cutNames, List.mem_append, List.map_map]
        refine .inr (List.mem_map.2 ⟨n, hn, ?_⟩)
        exact cutOf_fst
      · cases h
    have hN : handN L' ms xs = handN L ms xs := by
      unfold handN at hns ⊢
      rw [closeN_congr base]
      exact closeN_congr fun n hn => hns n (by unfold closeN; rw [mem_addN]; exact .inl hn)
    unfold opCallM
    rw [hN, handOK_congr hns, handOK_congr hrn, mixA_congr (restr_congr hrn), canonF_congr hns, if_pos hc, hys, Option.bind_some, hr, Option.bind_some]
    have hH : ∀ x ∈ pickH ms xs, ∀ n ∈ x.names, L' n = L n := fun x hx n hn => hL x (pickH_mem hx) n hn
    unfold opBack at h ⊢
    rw [rootMap_congr 0 ms xs hH]
    split at h
    · rename_i hb
      cases h
      have hcut : (handN L ms xs).map (cutOf L' (rootMap L r 0 ms xs)) = (handN L ms xs).map (cutOf L (rootMap L r 0 ms xs)) := by
        refine List.map_congr_left fun n hn => ?_
        unfold cutOf
        rw [hns n hn]
      have hfr : (r.blks.all fun p => (lk (rootMap L r 0 ms xs) p.1).isSome || (L' (imp d p.1)).isNone) = r.blks.all fun p => (lk (rootMap L r 0 ms xs) p.1).isSome || (L (imp d p.1)).isNone := by
        have hup : ∀ p ∈ r.blks, lk (rootMap L r 0 ms xs) p.1 = none → L' (imp d p.1) = L (imp d p.1) := by
          intro p hp hq
          refine hw _ ?_
          simp only [Out.writes, List.mem_append, List.map_map]
          have hp' : ∃ b, (p.1, b) ∈ fixB L (rootMap L r 0 ms xs) r.blks := ⟨_, List.mem_map.2 ⟨p, hp, rfl⟩⟩
          obtain ⟨b, hp'⟩ := hp'
          refine .inl (List.mem_map.2 ⟨(p.1, b), hp', ?_⟩)
          simp only [Function.comp_apply, gMap, hq]
        have gen : ∀ (l : List (Nat × Blk)), (∀ p ∈ l, lk (rootMap L r 0 ms xs) p.1 = none → L' (imp d p.1) = L (imp d p.1)) →
            (l.all fun p => (lk (rootMap L r 0 ms xs) p.1).isSome || (L' (imp d p.1)).isNone) = l.all fun p => (lk (rootMap L r 0 ms xs) p.1).isSome || (L (imp d p.1)).isNone := by
          intro l
          induction l with
          | nil => intro _; rfl
          | cons p l ih =>
            intro hl
            rw [List.all_cons, List.all_cons, ih fun q hq => hl q (by simp [hq])]
            cases hq : lk (rootMap L r 0 ms xs) p.1 with
            | some _ => simp
            | none => rw [hl p (by simp) hq]
        exact gen _ hup
      have hfx : fixB L' (rootMap L r 0 ms xs) r.blks = fixB L (rootMap L r 0 ms xs) r.blks := by
        unfold fixB
        refine List.map_congr_left fun p _ => ?_
        cases hq : lk (rootMap L r 0 ms xs) p.1 with
        | none => rfl
        | some n =>
          have hb' := hb
          simp only [Bool.and_eq_true, List.all_eq_true] at hb'
          have := hb'.1.2 _ (lk_mem hq)
          simp only
          rw [hns n (memN_iff.1 this)]
      rw [hfr, hcut, hfx, if_pos hb]
    · cases h
  · cases h

theorem opCallS_congr {d : Nat} {cs : List A → Option CallOut} {xs : List A} {out : Out} (h : opCallS L d cs xs = some out) (hsm : ∀ x ∈ xs, Same L L' x.names) (hw : ∀ n ∈ out.writes, L' n = L n) : opCallS L' d cs xs = some out := by
  unfold opCallS at h ⊢
  rw [passAs_congr (L := L) (L' := L') hsm]
  simp only [Option.bind_eq_some_iff] at h ⊢
  obtain ⟨ys, hys, r, hr, ho⟩ := h
  refine ⟨ys, hys, r, hr, ?_⟩
  unfold opCall at ho ⊢
  split at ho
  · rename_i hc
    cases ho
    simp only [Bool.and_eq_true, List.all_eq_true, Option.isNone_iff_eq_none] at hc
    rw [if_pos]
    simp only [Bool.and_eq_true, List.all_eq_true, Option.isNone_iff_eq_none]
    refine ⟨hc.1, fun p hp => ?_⟩
    rw [hw (imp d p.1) (by simp only [Out.writes, callUpd, List.map_map, cutNames, List.map_nil, List.append_nil, List.mem_map]; exact ⟨p, hp, rfl⟩)]
    exact hc.2 p hp
  · cases ho
theorem fzOK_congr {ns : List Nat} {o1 : Out} (hok : fzOK L ns o1 = true) (hw : ∀ n ∈ ({ val := o1.val, upd := o1.upd, cut := fzC ns ++ o1.cut } : Out).writes, L' n = L n) : fzOK L' ns o1 = true ∧ ∀ n ∈ ns, L' n = L n := by
  have hns : ∀ n ∈ ns, L' n = L n := fun n hn => hw n (by simp [Out.writes, cutNames, fzC, hn])
  have hup : ∀ p ∈ o1.upd, L' p.1 = L p.1 := fun p hp => hw p.1 (by simp only [Out.writes, List.mem_append]; exact .inl (List.mem_map.2 ⟨p, hp, rfl⟩))
  refine ⟨?_, hns⟩
  unfold fzOK at hok ⊢
  simp only [Bool.and_eq_true, List.all_eq_true] at hok ⊢
  exact ⟨⟨fun n hn => by rw [hns n hn]; exact hok.1.1 n hn, fun p hp => by rw [hup p hp]; exact hok.1.2 p hp⟩, hok.2⟩
theorem opCallZ_congr {d : Nat} {cs : List A → Option CallOut} {xs : List A} {out : Out} (h : opCallZ L d cs xs = some out) (hsm : ∀ x ∈ xs, Same L L' x.names) (hw : ∀ n ∈ out.writes, L' n = L n) : opCallZ L' d cs xs = some out := by
  have hx : ∀ n ∈ A.namesL xs, L' n = L n := fun n hn => by
    obtain ⟨x, h1, h2⟩ := namesL_mem hn
    exact hsm x h1 n h2
  unfold opCallZ at h ⊢
  rw [ownRowsL_congr hx]
  generalize ownRowsL L xs = ns at h
  obtain ⟨o1, h1, h⟩ := Option.bind_eq_some_iff.1 h
  split at h
  · rename_i hok
    cases h
    obtain ⟨hok', hns⟩ := fzOK_congr hok hw
    refine Option.bind_eq_some_iff.2 ⟨o1, ?_, ?_⟩
    · rw [fzL_congr hx]
      refine opCallS_congr h1 (fun x hx' n hn => ?_) (fun n hn => ?_)
      · have : n ∈ A.namesL (fzL L ns xs) := by
          clear h1 hok hok' hsm
          generalize fzL L ns xs = ys at hx'
          induction ys with
          | nil => cases hx'
          | cons y ys ih =>
            simp only [A.namesL, List.mem_append]
            rcases List.mem_cons.1 hx' with rfl | hx'
            · exact .inl hn
            · exact .inr (ih hx')
        unfold cutL
        rw [hx n (fzL_names n this)]
      · unfold cutL
        rw [hw n (by simp only [Out.writes, List.mem_append, cutNames, List.map_append] at hn ⊢; exact hn.imp id .inr)]
    · rw [if_pos hok']
  · cases h

theorem namesL_of {n : Nat} {x : A} : ∀ {xs : List A}, x ∈ xs → n ∈ x.names → n ∈ A.namesL xs
  | y :: ys, hx, hn => by
    simp only [A.namesL, List.mem_append]
    rcases List.mem_cons.1 hx with rfl | hx
    · exact .inl hn
    · exact .inr (namesL_of hx hn)
theorem opAny0_congr {C : Cfg} {ρ ρ' : Operand → A} {d : Nat} {o : Oper} {out : Out} (h : opAny0 C L d ρ o = some out) (hρ : ∀ x ∈ o.op.operands, ρ' x = ρ x) (hd : L' d = L d) (hL : ∀ x ∈ o.op.operands, Same L L' (ρ x).names)
    (hw : ∀ n ∈ out.writes, L' n = L n) : opAny0 C L' d ρ' o = some out := by
  unfold opAny0 at h ⊢
  split
  · rename_i c hop
    rw [hop] at h
    simp only at h
    split
    · rename_i b hb
      rw [hb] at h
      simp only at h
      exact opOutF_congr h hρ hd hL hw
    · rename_i hnb
      have h : ((calleeOf ρ c).bind fun g => bif exB C.P g then opExt (extK C.P g) (callArgs C.P ρ c) else bif (C.sig g).isEmpty then opCallS L d (fun ys => C.cs g ys []) (callArgs C.P ρ c)
      else bif anyT (C.sig g) then opCallM L d (C.sig g) (C.cs g) (callArgs C.P ρ c)
      else opCallZ L d (fun ys => C.cs g ys []) (callArgs C.P ρ c)) = some out := by
        split at h
        · rename_i b hb; exact (hnb b hb).elim
        · exact h
      simp only [hop, Op.operands, Call.operands] at hρ hL
      have hcap : capsOf ρ' c = capsOf ρ c := by
        unfold capsOf
        split
        · rename_i f hf
          rw [hρ f (by simp [hf])]
        · rfl
      have hm : callArgs C.P ρ' c = callArgs C.P ρ c := by
        unfold callArgs
        rw [hcap, argsOf_congr fun x hx => hρ x (by simp only [Array.mem_append]; right; simpa using hx)]
      have hcl : calleeOf ρ' c = calleeOf ρ c := by
        unfold calleeOf
        split
        · rename_i f hf
          rw [hρ f (by simp [hf])]
        · rfl
      have hsm : ∀ x ∈ callArgs C.P ρ c, Same L L' x.names := fun x hx => by
        unfold callArgs at hx
        rcases List.mem_append.1 hx with hx | hx
        · rcases argsOf_mem hx with ⟨z, hz, rfl⟩ | hx
          · exact hL z (by simp only [Array.mem_append]; right; simpa using hz)
          · rw [hx]; exact fun n hn => by cases hn
        · unfold capsOf at hx
          split at hx
          · rename_i f hf
            have hLf := hL f (by simp [hf])
            split at hx
            · rename_i g cs hfv
              rw [hfv] at hLf
              exact fun n hn => hLf n (by simp only [A.names]; exact namesL_of hx hn)
            · cases hx
          · cases hx
      rw [hm, hcl]
      obtain ⟨g, hg, h⟩ := Option.bind_eq_some_iff.1 h
      refine Option.bind_eq_some_iff.2 ⟨g, hg, ?_⟩
      cases hex : exB C.P g with
      | true => rw [hex] at h; exact h
      | false =>
      rw [hex, cond_false] at h
      rw [cond_false]
      cases hsig : (C.sig g).isEmpty with
      | false =>
        rw [hsig] at h
        simp only [cond_false] at h ⊢
        cases hany : anyT (C.sig g) with
        | true =>
          rw [hany] at h
          exact opCallM_congr h hsm hw
        | false =>
          rw [hany] at h
          exact opCallZ_congr h hsm hw
      | true =>
        rw [hsig] at h
        exact opCallS_congr h hsm hw
  · rename_i hnc
    split at h
    · rename_i c hop; exact (hnc c hop).elim
    · exact opOutF_congr h hρ hd hL hw

theorem opMv_congr {ρ ρ' : Operand → A} {d : Nat} {o : Oper} {out : Out} (h : opMv P L d ρ o = some out) (hρ : ∀ x ∈ o.op.operands, ρ' x = ρ x) (hL : ∀ x ∈ o.op.operands, Same L L' (ρ x).names)
    (hw : ∀ n ∈ out.writes, L' n = L n) : opMv P L' d ρ' o = some out := by
  unfold opMv at h ⊢
  split at h
  · rename_i t hop
    unfold opAllocOwn at h ⊢
    obtain ⟨z, hz, h⟩ := Option.bind_eq_some_iff.1 h
    obtain ⟨rc, hrc, h⟩ := Option.bind_eq_some_iff.1 h
    rw [hz, Option.bind_some, hrc, Option.bind_some]
    split at h
    · rename_i h1 h2
      cases h
      have e1 := hw d (by simp [Out.writes])
      have e2 := hw (imp d 0) (by simp [Out.writes])
      rw [e1, e2, h1, h2]
    · cases h
  · rename_i t x hop
    rw [hop] at hρ hL
    have hx : x ∈ (Op.load t x).operands := by simp [Op.operands]
    rw [hρ x hx]
    have hL := hL x hx
    unfold opLoadMv at h ⊢
    split at h
    · rename_i n π hx
      rw [hx] at hL
      rw [hL n (by simp [A.names])]
      exact h
    · cases h
  · rename_i t ps hop
    rw [hop] at hρ
    have hm : (ps.toList.map fun p => (p.1, ρ' p.2)) = ps.toList.map fun p => (p.1, ρ p.2) := List.map_congr_left fun p hp => by
      rw [hρ p.2 (by simp only [Op.operands]; simp; exact ⟨p.1, by simpa using hp⟩)]
    rw [hm]
    unfold opBuildOwn at h ⊢
    split at h
    · obtain ⟨pl, hpl, h⟩ := Option.bind_eq_some_iff.1 h
      obtain ⟨y, hy, h⟩ := Option.bind_eq_some_iff.1 h
      rename_i zs fs hz hu
      simp only [hz, hu, hpl, Option.bind_some, hy]
      split at h
      · rename_i hfree
        cases h
        rw [if_pos]
        rw [List.all_eq_true] at hfree ⊢
        intro p hp
        rw [hw p.1 (by simp only [Out.writes, List.mem_append]; exact .inl (List.mem_map_of_mem hp))]
        exact hfree p hp
      · cases h
    · cases h
  · cases h
theorem mapAt_congr {x : A} (h : Same L L' x.names) : mapAt L' x = mapAt L x := by
  cases x with
  | o n => simp only [mapAt]; rw [h n (by simp [A.names])]
  | _ => rfl
theorem opLookup_congr {t : TypeId} {x i : A} {ok : Bool} (h : Same L L' x.names) : opLookup P L' t x i ok = opLookup P L t x i ok := by unfold opLookup; rw [mapAt_congr h]
theorem opMapUpdate_congr {t : TypeId} {x i v : A} (h : Same L L' x.names) : opMapUpdate P L' t x i v = opMapUpdate P L t x i v := by unfold opMapUpdate; rw [mapAt_congr h]
theorem opMapNil_congr {t : TypeId} {x : A} {b : Bool} (h : Same L L' x.names) : opMapNil P L' t x b = opMapNil P L t x b := by 
  have e := mapAt_congr (L := L) (L' := L') h
  unfold opMapNil
  split
  · cases x with
    | pv z => cases z <;> rfl
    | o n => simp only; rw [e]
    | _ => rfl
  · rfl
theorem opClear_congr {ts : List TypeId} {xs : List A} (h : ∀ x ∈ xs, Same L L' x.names) : opClear P L' ts xs = opClear P L ts xs := by
  unfold opClear
  split
  · rename_i t x
    rw [mapAt_congr (h x (by simp))]
  · rfl
theorem opMap_congr {ρ ρ' : Operand → A} {d : Nat} {o : Oper} {out : Out} (h : opMap P L d ρ o = some out) (hρ : ∀ x ∈ o.op.operands, ρ' x = ρ x) (hd : L' d = L d) (hL : ∀ x ∈ o.op.operands, Same L L' (ρ x).names) (hw : ∀ n ∈ out.writes, L' n = L n) : opMap P L' d ρ' o = some out := by
  unfold opMap at h ⊢
  split at h
  · unfold opMakeMap at h ⊢
    rw [opNew_congr hd]; exact h
  · rename_i t x i ok hop
    rw [hop] at hρ hL
    rw [hρ x (by simp [Op.operands]), hρ i (by simp [Op.operands]), opLookup_congr (hL x (by simp [Op.operands]))]
    exact h
  · rename_i t m q v hop
    rw [hop] at hρ hL
    rw [hρ m (by simp [Op.operands]), hρ q (by simp [Op.operands]), hρ v (by simp [Op.operands]), opMapUpdate_congr (hL m (by simp [Op.operands]))]
    exact h
  · rename_i t x y z hop
    rw [hop] at hρ hL
    rw [hρ x (by simp [Op.operands]), opMapNil_congr (hL x (by simp [Op.operands]))]
    exact h
  · rename_i t x y z hop
    rw [hop] at hρ hL
    rw [hρ x (by simp [Op.operands]), opMapNil_congr (hL x (by simp [Op.operands]))]
    exact h
  · rename_i t x y hop
    rw [hop] at hρ hL
    rw [hρ x (by simp [Op.operands])]
    split at h
    · rename_i hn
      rw [if_pos hn]
      unfold opStoreNil at h ⊢
      split at h
      · rename_i n j hx
        have hLn : L' n = L n := hL x (by simp [Op.operands]) n (by rw [hx]; simp [A.names])
        obtain ⟨b, hb, h⟩ := Option.bind_eq_some_iff.1 h
        obtain ⟨rc, hrc, h⟩ := Option.bind_eq_some_iff.1 h
        simp only [hLn, hb, hrc, Option.bind_some]
        split at h
        · rename_i hc
          obtain ⟨b', hb', e⟩ := Option.map_eq_some_iff.1 h
          subst e
          have hw2 := hw (imp n (j + 1)) (by simp [Out.writes])
          rw [hw2, if_pos hc, hb']
          rfl
        · cases h
      · cases h
    · cases h
  · rename_i c hop
    rw [hop] at hρ hL
    split at h
    · rename_i hc
      have hm : c.args.toList.map ρ' = c.args.toList.map ρ := List.map_congr_left fun x hx => hρ x (by simp only [Op.operands, Call.operands, Array.mem_append]; right; simpa using hx)
      rw [hm, opClear_congr (L := L)]
      · exact h
      · intro x hx
        obtain ⟨z, hz, rfl⟩ := List.mem_map.1 hx
        exact hL z (by simp only [Op.operands, Call.operands, Array.mem_append]; right; simpa using hz)
    · cases h
  · cases h
theorem opAny_congr {C : Cfg} {ρ ρ' : Operand → A} {d : Nat} {o : Oper} {out : Out} (h : opAny C L d ρ o = some out) (hρ : ∀ x ∈ o.op.operands, ρ' x = ρ x) (hd : L' d = L d) (hL : ∀ x ∈ o.op.operands, Same L L' (ρ x).names)
    (hw : ∀ n ∈ out.writes, L' n = L n) : opAny C L' d ρ' o = some out := by
  unfold opAny at h ⊢
  cases hmv : memN d C.mv with
  | true => rw [hmv, cond_true] at h; exact opMv_congr h hρ hL hw
  | false =>
    rw [hmv, cond_false] at h
    rw [cond_false]
    cases hmp : mapB o with
    | true => rw [hmp, cond_true] at h; exact opMap_congr h hρ hd hL hw
    | false => rw [hmp, cond_false] at h; exact opAny0_congr h hρ hd hL hw
end
end Go.Proofs.Ytgecpcajmhgboaa.M

/- Two operations that do not hang on each other go in either order. -/

namespace Go.Proofs.Ytgecpcajmhgboaa.M
open Go

def act (C : Cfg) (ops : Array Oper) (e : Nat → A) (L : Nat → Option Blk) (o : Oper) : Option Out :=
  (guardF ops e o).bind fun b => bif b then opAny C L (o.dst.getD 0) (evalF C.G e) o else some { val := .und }

def Hall (out : Out) (L : Nat → Option Blk) : Prop := ∀ m b, out.mem L m = some b → b.all (keepm out.cut) = true

def FAct (C : Cfg) (ops : Array Oper) (o : Oper) (e : Nat → A) (L : Nat → Option Blk) (out : Out) (e' : Nat → A) (L' : Nat → Option Blk) : Prop :=
  act C ops e L o = some out ∧ dstOK C o ∧ Hall out L ∧ e' = putF (fun t => purge out.cut (e t)) o.dst out.val ∧ L' = out.mem L

theorem purge_nil (x : A) : purge [] x = x := by unfold purge; rw [show x.all (keepm []) = true from A.all_true _]; rfl

theorem FAct.step {C : Cfg} {ops : Array Oper} {i : Nat} {o : Oper} {e e' : Nat → A} {L L' : Nat → Option Blk} {out : Out} (hi : ops[i]? = some o) (h : FAct C ops o e L out e' L') : FStep C ops i e L e' L' := by
  obtain ⟨h1, h2, h3, h4, h5⟩ := h
  simp only [act, Option.bind_eq_some_iff] at h1
  obtain ⟨b, hb, h1⟩ := h1
  refine ⟨o, b, hi, hb, h2, fun ht => ?_, fun hf => ?_⟩
  · subst ht
    exact ⟨out, h1, h3, h4, h5⟩
  · subst hf
    simp only [cond_false, Option.some.injEq] at h1
    subst h1
    refine ⟨?_, by rw [h5, mem_nil]⟩
    rw [h4]
    congr 1
    funext t
    exact purge_nil _

/-- what is told of an operation: its slot, the slots it reads, the names it speaks of, the names it writes -/
structure Ent where
  d : Option Nat
  R : List Nat
  N : List Nat
  W : List Nat
  /-- of a mere move: the values that go through it -/
  V : List A := []
  X : List (Nat × Option (List PE)) := []
def pureMv (o : Oper) : Bool := match o.op with
  | .move (.tmp _) => true
  | _ => false

structure Told (ops : Array Oper) (o : Oper) (e : Nat → A) (L : Nat → Option Blk) (out : Out) (a : Ent) : Prop where
  d : a.d = o.dst
  r : ∀ t ∈ o.looksAt ops, t ∈ a.R ∧ e t ≠ .bad ∧ ((∀ n ∈ (e t).names, n ∈ a.N) ∨ e t ∈ a.V)
  v : (∀ n ∈ out.val.names, n ∈ a.N) ∨ out.val ∈ a.V
  m : pureMv o = true ∨ ∀ t ∈ o.looksAt ops, ∀ n ∈ (e t).names, n ∈ a.N
  x : a.X = out.cut
  u : ∀ m b, lk out.upd m = some b → ∀ n ∈ b.names, n ∈ a.N
  w : ∀ n ∈ out.writes, n ∈ a.W
  wn : ∀ n ∈ a.W, n ∈ a.N
  old : ∀ m ∈ a.W, ∀ b, L m = some b → ∀ n ∈ b.names, n ∈ a.N
  dn : o.dst.getD 0 ∈ a.N

structure Indep (a b : Ent) : Prop where
  dr : ∀ d, a.d = some d → d ∉ b.R ∧ b.d ≠ some d
  rd : ∀ d, b.d = some d → d ∉ a.R
  wn : ∀ n ∈ a.W, n ∉ b.N
  nw : ∀ n ∈ b.W, n ∉ a.N
  vx : ∀ x ∈ a.V, x.all (keepm b.X) = true
  xv : ∀ x ∈ b.V, x.all (keepm a.X) = true

section
variable {C : Cfg} {ops : Array Oper} {L L' : Nat → Option Blk} {e e' : Nat → A}

theorem mem_cases {o : Out} {m : Nat} {b : Blk} : o.mem L m = some b ↔ killed o.cut m = false ∧ (lk o.upd m = some b ∨ lk o.upd m = none ∧ L m = some b) := by
  unfold Out.mem
  cases killed o.cut m with
  | true => simp
  | false =>
    simp only [Bool.false_eq_true, if_false, true_and]
    cases lk o.upd m <;> simp

theorem lk_none_of {α : Type} : ∀ {l : List (Nat × α)} {n : Nat}, n ∉ l.map (·.1) → lk l n = none
  | [], _, _ => rfl
  | (m, x) :: l, n, h => by
    rw [lk_cons, if_neg (fun e => h (by simp [e])), lk_none_of (fun q => h (by simp at q ⊢; exact .inr q))]

theorem killed_false {c : List (Nat × Option (List PE))} {n : Nat} (h : n ∉ cutNames c) : killed c n = false := by
  unfold killed
  rw [List.any_eq_false]
  intro x hx
  have hne : n ≠ x.1 := fun q => h (by rw [q]; exact List.mem_map_of_mem hx)
  obtain ⟨a, b⟩ := x
  cases b with
  | none =>
    simp only
    intro hq
    exact hne (nbeq.1 hq)
  | some π => simp

theorem mem_same {o : Out} {n : Nat} (h : n ∉ o.writes) : o.mem L n = L n := by
  have h1 : lk o.upd n = none := lk_none_of fun q => h (List.mem_append_left _ q)
  have h2 : killed o.cut n = false := killed_false fun q => h (List.mem_append_right _ q)
  unfold Out.mem
  rw [h1, h2]; rfl

theorem ofConst_names (v : Value) : (ofConst v).names = [] := by
  unfold ofConst
  split <;> first | rfl | (split <;> rfl)
theorem evalF_names {G : Nat → Option PV} (x : Operand) (h : ∀ t, x ≠ .tmp t) : (evalF G e x).names = [] := by
  cases x with
  | tmp t => exact absurd rfl (h t)
  | const v => exact ofConst_names v
  | global g => simp only [evalF]; split <;> rfl
  | func f => rfl

theorem looks_op {o : Oper} {t : Nat} (h : Operand.tmp t ∈ o.op.operands) : t ∈ o.looksAt ops := by
  unfold Oper.looksAt
  refine List.mem_append_left _ (List.mem_filterMap.2 ⟨.tmp t, by simpa using h, rfl⟩)

theorem guardF_congr {o : Oper} (h : ∀ t ∈ o.looksAt ops, e' t = e t) : guardF ops e' o = guardF ops e o := by
  unfold guardF
  split
  · rfl
  · rename_i j want hg
    split
    · rfl
    · rename_i g hj
      rw [h g (List.mem_append_right _ (by rw [hg]; simp [hj]))]

theorem opAny_move {C : Cfg} {ρ ρ' : Operand → A} {d : Nat} {o : Oper} {out : Out} (hp : pureMv o = true) (h : opAny C L d ρ o = some out) (hρ : ∀ x ∈ o.op.operands, ρ' x = ρ x) : opAny C L' d ρ' o = some out := by
  unfold pureMv at hp
  split at hp
  · rename_i t ht
    have hx : ρ' (.tmp t) = ρ (.tmp t) := hρ _ (by rw [ht]; simp [Op.operands])
    unfold opAny opMv mapB opAny0 opOutF siB nilN at h ⊢
    simp only [ht, fzN, opOut, isNilSl, Bool.false_and, cond_false] at h ⊢
    rw [hx]
    exact h
  · cases hp
/-- an operation finds the same elsewhere -/
theorem act_congr {o : Oper} {out : Out} {a : Ent} (h : act C ops e L o = some out) (T : Told ops o e L out a) (he : ∀ t ∈ o.looksAt ops, e' t = e t) (hL : ∀ n ∈ a.N, L' n = L n) : act C ops e' L' o = some out := by
  simp only [act, Option.bind_eq_some_iff] at h ⊢
  obtain ⟨b, hb, h⟩ := h
  refine ⟨b, by rw [guardF_congr he]; exact hb, ?_⟩
  cases b with
  | false => exact h
  | true =>
    simp only [cond_true] at h ⊢
    have hρ : ∀ x ∈ o.op.operands, evalF C.G e' x = evalF C.G e x := fun x hx => evalF_congr fun t ht => he t (looks_op (by rw [← ht]; exact hx))
    rcases T.m with hm | hm
    · exact opAny_move hm h hρ
    refine opAny_congr h hρ (hL _ T.dn) (fun x hx n hn => hL n ?_) (fun n hn => hL n (T.wn n (T.w n hn)))
    by_cases ht : ∃ t, x = .tmp t
    · obtain ⟨t, rfl⟩ := ht
      exact hm t (looks_op hx) n hn
    · rw [evalF_names x (fun t e => ht ⟨t, e⟩)] at hn
      cases hn

theorem purge_id {c : List (Nat × Option (List PE))} {x : A} (h : ∀ n ∈ x.names, n ∉ cutNames c) : purge c x = x := by
  unfold purge; rw [A.all_of x h]; rfl
theorem purge_kept {c : List (Nat × Option (List PE))} {x : A} (h : x.all (keepm c) = true) : purge c x = x := by
  unfold purge; rw [h]; rfl
theorem purge_ne {c : List (Nat × Option (List PE))} {x : A} (h : purge c x ≠ .bad) : purge c x = x := by
  unfold purge at *
  cases hx : x.all (keepm c) with
  | true => rfl
  | false => rw [hx] at h; exact absurd rfl h
theorem purge_comm (c d : List (Nat × Option (List PE))) (x : A) : purge c (purge d x) = purge d (purge c x) := by
  unfold purge
  cases h1 : x.all (keepm c) <;> cases h2 : x.all (keepm d) <;> simp [h1, h2, A.all]

theorem putF_ne {d : Option Nat} {x : A} {t : Nat} (h : d ≠ some t) : putF e d x t = e t := by
  cases d with
  | none => rfl
  | some d =>
    simp only [putF]
    have : Nat.beq t d = false := by
      cases hq : Nat.beq t d with
      | false => rfl
      | true => exact absurd (by rw [nbeq.1 hq]) h
    rw [this]; rfl
theorem putF_eq {d : Nat} {x : A} : putF e (some d) x d = x := by simp [putF]

theorem swap {oi oj : Oper} {e1 e2 : Nat → A} {L1 L2 : Nat → Option Blk} {A B : Out} {a b : Ent} (hi : FAct C ops oi e L A e1 L1) (Ti : Told ops oi e L A a) (hj : FAct C ops oj e1 L1 B e2 L2) (Tj : Told ops oj e1 L1 B b)
    (I : Indep a b) : ∃ e1' L1', FAct C ops oj e L B e1' L1' ∧ Told ops oj e L B b ∧ FAct C ops oi e1' L1' A e2 L2 ∧ Told ops oi e1' L1' A a := by
  obtain ⟨i1, i2, i3, rfl, rfl⟩ := hi
  obtain ⟨j1, j2, j3, rfl, rfl⟩ := hj
  have hcA : ∀ n, n ∈ cutNames A.cut → n ∈ a.W := fun n hn => Ti.w n (List.mem_append_right _ hn)
  have hcB : ∀ n, n ∈ cutNames B.cut → n ∈ b.W := fun n hn => Tj.w n (List.mem_append_right _ hn)
  have f1 : ∀ t ∈ oj.looksAt ops, e t = putF (fun t => purge A.cut (e t)) oi.dst A.val t := by
    intro t ht
    obtain ⟨q1, q2, q3⟩ := Tj.r t ht
    have hne : oi.dst ≠ some t := by
      intro h
      exact (I.dr t (by rw [Ti.d]; exact h)).1 q1
    rw [putF_ne hne] at q2 ⊢
    exact (purge_ne q2).symm
  have f2 : ∀ n ∈ b.N, L n = A.mem L n := fun n hn => (mem_same fun h => I.wn n (Ti.w n h) hn).symm
  have g1 : act C ops e L oj = some B := act_congr j1 Tj f1 f2
  have g3 : Hall B L := by
    intro m x hm
    obtain ⟨k1, k2⟩ := mem_cases.1 hm
    rcases k2 with k2 | ⟨k2, k3⟩
    · exact j3 m x (mem_cases.2 ⟨k1, .inl k2⟩)
    · by_cases hw : m ∈ A.writes
      · exact Blk.all_of x fun n hn hc => I.nw n (hcB n hc) (Ti.old m (Ti.w m hw) x k3 n hn)
      · exact j3 m x (mem_cases.2 ⟨k1, .inr ⟨k2, by rw [mem_same hw]; exact k3⟩⟩)
  have Tj' : Told ops oj e L B b := by
    refine { Tj with r := fun t ht => ?_, m := ?_, old := fun m hm x hx => ?_ }
    · rw [f1 t ht]; exact Tj.r t ht
    · exact Tj.m.imp id fun h t ht => by rw [f1 t ht]; exact h t ht
    · rw [f2 m (Tj.wn m hm)] at hx; exact Tj.old m hm x hx
  have f3 : ∀ t ∈ oi.looksAt ops, putF (fun t => purge B.cut (e t)) oj.dst B.val t = e t := by
    intro t ht
    obtain ⟨q1, q2, q3⟩ := Ti.r t ht
    have hne : oj.dst ≠ some t := by
      intro h
      exact I.rd t (by rw [Tj.d]; exact h) q1
    rw [putF_ne hne]
    rcases q3 with q3 | q3
    · exact purge_id fun n hn hc => I.nw n (hcB n hc) (q3 n hn)
    · exact purge_kept (Tj.x ▸ I.vx _ q3)
  have f4 : ∀ n ∈ a.N, B.mem L n = L n := fun n hn => mem_same fun h => I.nw n (Tj.w n h) hn
  have g4 : act C ops (putF (fun t => purge B.cut (e t)) oj.dst B.val) (B.mem L) oi = some A := act_congr i1 Ti f3 f4
  have g5 : Hall A (B.mem L) := by
    intro m x hm
    obtain ⟨k1, k2⟩ := mem_cases.1 hm
    rcases k2 with k2 | ⟨k2, k3⟩
    · exact i3 m x (mem_cases.2 ⟨k1, .inl k2⟩)
    · obtain ⟨l1, l2⟩ := mem_cases.1 k3
      rcases l2 with l2 | ⟨l2, l3⟩
      · exact Blk.all_of x fun n hn hc => I.wn n (hcA n hc) (Tj.u m x l2 n hn)
      · exact i3 m x (mem_cases.2 ⟨k1, .inr ⟨k2, l3⟩⟩)
  have Ti' : Told ops oi (putF (fun t => purge B.cut (e t)) oj.dst B.val) (B.mem L) A a := by
    refine { Ti with r := fun t ht => ?_, m := ?_, old := fun m hm x hx => ?_ }
    · rw [f3 t ht]; exact Ti.r t ht
    · exact Ti.m.imp id fun h t ht => by rw [f3 t ht]; exact h t ht
    · rw [f4 m (Ti.wn m hm)] at hx; exact Ti.old m hm x hx
  refine ⟨_, _, ⟨g1, j2, g3, rfl, rfl⟩, Tj', ⟨g4, i2, g5, ?_, ?_⟩, Ti'⟩
  · funext t
    have vA : purge B.cut A.val = A.val := by
      rcases Ti.v with q | q
      · exact purge_id fun n hn hc => I.nw n (hcB n hc) (q n hn)
      · exact purge_kept (Tj.x ▸ I.vx _ q)
    have vB : purge A.cut B.val = B.val := by
      rcases Tj.v with q | q
      · exact purge_id fun n hn hc => I.wn n (hcA n hc) (q n hn)
      · exact purge_kept (Ti.x ▸ I.xv _ q)
    by_cases h1 : oi.dst = some t
    · have h2 : oj.dst ≠ some t := by
        have := (I.dr t (by rw [Ti.d]; exact h1)).2
        rw [Tj.d] at this; exact this
      rw [putF_ne h2, h1, putF_eq, putF_eq]
      exact vA
    · rw [putF_ne (e := fun t => purge A.cut _) h1]
      by_cases h2 : oj.dst = some t
      · rw [h2, putF_eq, putF_eq]
        exact vB.symm
      · rw [putF_ne h2, putF_ne h2, putF_ne h1]
        exact purge_comm _ _ _
  · funext n
    by_cases h1 : n ∈ A.writes
    · have h2 : n ∉ B.writes := fun h => I.wn n (Ti.w n h1) (Tj.wn n (Tj.w n h))
      rw [mem_same h2]
      unfold Out.mem
      have : B.mem L n = L n := mem_same h2
      unfold Out.mem at this
      rw [this]
    · rw [mem_same (L := B.mem L) h1]
      unfold Out.mem
      have : A.mem L n = L n := mem_same h1
      unfold Out.mem at this
      rw [this]
end
end Go.Proofs.Ytgecpcajmhgboaa.M

/- A region in whatever order. -/

namespace Go.Proofs.Ytgecpcajmhgboaa.M
open Go

inductive Run (C : Cfg) (ops : Array Oper) : List (Nat × Ent) → (Nat → A) → (Nat → Option Blk) → (Nat → A) → (Nat → Option Blk) → Prop
  | nil {e L} : Run C ops [] e L e L
  | cons {i a l o out e L e1 L1 e' L'} : ops[i]? = some o → FAct C ops o e L out e1 L1 → Told ops o e L out a → Run C ops l e1 L1 e' L' → Run C ops ((i, a) :: l) e L e' L'

section
variable {C : Cfg} {ops : Array Oper}

/-- what hangs on nothing ahead of it goes first -/
theorem Run.front {j : Nat} {b : Ent} {post : List (Nat × Ent)} {e' : Nat → A} {L' : Nat → Option Blk} : ∀ (pre : List (Nat × Ent)) {e : Nat → A} {L : Nat → Option Blk}, Run C ops (pre ++ (j, b) :: post) e L e' L' → (∀ p ∈ pre, Indep p.2 b) →
    ∃ o out e1 L1, ops[j]? = some o ∧ FAct C ops o e L out e1 L1 ∧ Told ops o e L out b ∧ Run C ops (pre ++ post) e1 L1 e' L'
  | [], e, L, r, _ => by
    cases r with
    | cons h1 h2 h3 h4 => exact ⟨_, _, _, _, h1, h2, h3, h4⟩
  | (i, a) :: pre, e, L, r, h => by
    cases r with
    | cons h1 h2 h3 h4 =>
      obtain ⟨oj, B, e2, L2, g1, g2, g3, g4⟩ := Run.front pre h4 (fun p hp => h p (by simp [hp]))
      obtain ⟨e3, L3, q1, q2, q3, q4⟩ := swap h2 h3 g2 g3 (h (i, a) (by simp))
      exact ⟨oj, B, e3, L3, g1, q1, q2, .cons h1 q3 q4 g4⟩

def reach (ops : Array Oper) : Nat → Nat → Nat → Bool
  | 0, _, _ => false
  | n + 1, p, q => match ops[q]? with
    | some o => o.after.toList.any fun ed => Region.binds .any ed && (Nat.beq ed.on p || reach ops n p ed.on)
    | none => false

theorem reach_listed {listed : Array Bool} (down : ∀ (j : Nat) (o : Oper), ops[j]? = some o → listed.getD j false = true → ∀ ed ∈ o.after, Region.binds .any ed = true → listed.getD ed.on false = true) :
    ∀ (n : Nat) {p q : Nat}, reach ops n p q = true → (∀ o, ops[q]? = some o → ∀ ed ∈ o.after, Region.binds .any ed = true → listed.getD ed.on false = true) → listed.getD p false = true
  | 0, p, q, h, _ => by simp [reach] at h
  | n + 1, p, q, h, hq => by
    unfold reach at h
    split at h
    · rename_i o ho
      rw [List.any_eq_true] at h
      obtain ⟨ed, hed, h⟩ := h
      simp only [Bool.and_eq_true, Bool.or_eq_true, nbeq] at h
      have hl := hq o ho ed (by simpa using hed) h.1
      rcases h.2 with h2 | h2
      · rw [← h2]; exact hl
      · exact reach_listed down n h2 fun o' ho' ed' hed' hb => down _ o' ho' hl ed' hed' hb
    · cases h

theorem any_sound (hC : CfgOK C) {k : Wk} (hk : k.G = C.G) (hn : k.nt = C.nt ∧ k.np = C.np) (hlow : ∀ (j : Nat) (o : Oper), ops[j]? = some o → ∀ ed ∈ o.after, Region.binds .any ed = true → ed.on < j) {Q : Exit → Act → World → Prop} {e' : Nat → A} {L' : Nat → Option Blk}
    (hQ : ∀ β S a w, RlF k β S e' L' a w → Q .normal a w) (n : Nat) : ∀ (l : List (Nat × Ent)) (listed : Array Bool) (β : Nat → Value) (S : Nat → Prop) (a : Act) (w : World) (e : Nat → A) (L : Nat → Option Blk),
    Run C ops l e L e' L' → l.Pairwise (fun p q => p.1 < q.1 ∧ (Indep p.2 q.2 ∨ reach ops n p.1 q.1 = true)) → listed.size = ops.size →
    (∀ j, j < ops.size → (listed.getD j true = false ↔ ∃ b, (j, b) ∈ l)) →
    (∀ (j : Nat) (o : Oper), ops[j]? = some o → listed.getD j false = true → ∀ ed ∈ o.after, Region.binds .any ed = true → listed.getD ed.on false = true) →
    RlF k β S e L a w → wpAny C.P .any ops Q l.length listed a w := by
  have gd : ∀ (listed : Array Bool) (j : Nat), j < listed.size → listed.getD j true = listed.getD j false := by
    intro listed j hj; simp [hj]
  intro l
  induction hl : l.length generalizing l with
  | zero =>
    intro listed β S a w e L hr hp hs hli hd R
    have : l = [] := List.length_eq_zero_iff.1 hl
    subst this
    cases hr
    refine ⟨?_, hQ β S a w R⟩
    rw [List.eq_nil_iff_forall_not_mem]
    intro j hj
    obtain ⟨h0, o, ho, _⟩ := mem_ready.1 hj
    have hlt : j < ops.size := (Array.getElem?_eq_some_iff.1 ho).1
    obtain ⟨b, hb⟩ := (hli j hlt).1 h0
    cases hb
  | succ fuel ih =>
    intro listed β S a w e L hr hp hs hli hd R
    refine ⟨fun h0 => ?_, fun i hi => ?_⟩
    · exfalso
      cases l with
      | nil => simp at hl
      | cons p l =>
        obtain ⟨i, b⟩ := p
        cases hr with
        | cons h1 h2 h3 h4 =>
          rename_i o out e1 L1
          have hlt : i < ops.size := (Array.getElem?_eq_some_iff.1 h1).1
          have hin : i ∈ Region.ready .any ops listed := by
            rw [mem_ready]
            refine ⟨(hli i hlt).2 ⟨b, by simp⟩, o, h1, fun ed hed hb => ?_⟩
            have hlo := hlow i o h1 ed hed hb
            cases hq : listed.getD ed.on false with
            | true => rfl
            | false =>
              have hlt' : ed.on < ops.size := by omega
              rw [← gd listed ed.on (by omega)] at hq
              obtain ⟨b', hb'⟩ := (hli ed.on hlt').1 hq
              rcases List.mem_cons.1 hb' with h | h
              · cases h; omega
              · have := (List.rel_of_pairwise_cons hp h).1
                simp only at this
                omega
          rw [h0] at hin
          cases hin
    · obtain ⟨hun, oi, hoi, hall⟩ := mem_ready.1 hi
      have hlt : i < ops.size := (Array.getElem?_eq_some_iff.1 hoi).1
      obtain ⟨b, hb⟩ := (hli i hlt).1 hun
      obtain ⟨pre, post, rfl⟩ := List.append_of_mem hb
      have hind : ∀ p ∈ pre, Indep p.2 b := by
        intro p hp'
        have := (List.pairwise_append.1 hp).2.2 p hp' (i, b) (by simp)
        rcases this.2 with h | h
        · exact h
        · exfalso
          have hlp := reach_listed (listed := listed) hd n h (fun o ho ed hed hbd => by rw [hoi] at ho; cases ho; exact hall ed hed hbd)
          have hpl : p.1 < ops.size := by have := this.1; simp only at this; omega
          have := (hli p.1 hpl).2 ⟨p.2, by simp [hp']⟩
          rw [gd listed p.1 (by omega), hlp] at this
          cases this
      obtain ⟨o, out, e1, L1, g1, g2, g3, g4⟩ := Run.front pre hr hind
      refine FStep.sound hC hk hn R (FAct.step g1 g2) fun β' S' a' w' R' => ?_
      have hkeys : ∀ q ∈ pre ++ post, q.1 ≠ i := by
        intro q hq
        rcases List.mem_append.1 hq with hq | hq
        · have := ((List.pairwise_append.1 hp).2.2 q hq (i, b) (by simp)).1
          simp only at this
          omega
        · have := (List.rel_of_pairwise_cons (List.pairwise_append.1 hp).2.1 hq).1
          simp only at this
          omega
      refine ih (pre ++ post) (by simp at hl ⊢; omega) (listed.setIfInBounds i true) β' S' a' w' e1 L1 g4 ?_ (by simp [hs]) ?_ ?_ R'
      · refine hp.sublist ?_
        exact List.Sublist.append (List.Sublist.refl _) (List.sublist_cons_self _ _)
      · intro j hj
        by_cases hij : i = j
        · subst hij
          constructor
          · intro h; simp [hs, hlt] at h
          · rintro ⟨b', hb'⟩; exact absurd rfl (hkeys _ hb')
        · rw [Go.getD_set_ne true hij, hli j hj]
          constructor
          · rintro ⟨b', hb'⟩
            refine ⟨b', ?_⟩
            rcases List.mem_append.1 hb' with h | h
            · exact List.mem_append_left _ h
            · rcases List.mem_cons.1 h with h | h
              · cases h; exact absurd rfl hij
              · exact List.mem_append_right _ h
          · rintro ⟨b', hb'⟩
            refine ⟨b', ?_⟩
            rcases List.mem_append.1 hb' with h | h
            · exact List.mem_append_left _ h
            · exact List.mem_append_right _ (List.mem_cons_of_mem _ h)
      · intro j o' ho' hj ed hed hbd
        by_cases hij : i = j
        · subst hij
          rw [hoi] at ho'; cases ho'
          exact getD_set_true (hall ed hed hbd)
        · rw [Go.getD_set_ne false hij] at hj
          exact getD_set_true (hd j o' ho' hj ed hed hbd)

inductive RunP (C : Cfg) (ops : Array Oper) : List Nat → (Nat → A) → (Nat → Option Blk) → (Nat → A) → (Nat → Option Blk) → Prop
  | nil {e L} : RunP C ops [] e L e L
  | cons {i l o out e L e1 L1 e' L'} : ops[i]? = some o → FAct C ops o e L out e1 L1 → RunP C ops l e1 L1 e' L' → RunP C ops (i :: l) e L e' L'

/-- one after the other -/
theorem run_sound (hC : CfgOK C) {k : Wk} (hk : k.G = C.G) (hn : k.nt = C.nt ∧ k.np = C.np) {Q : Exit → Act → World → Prop} {e' : Nat → A} {L' : Nat → Option Blk}
    (hQ : ∀ β S a w, RlF k β S e' L' a w → Q .normal a w) : ∀ (l : List Nat) (β : Nat → Value) (S : Nat → Prop) (a : Act) (w : World) (e : Nat → A) (L : Nat → Option Blk),
    RunP C ops l e L e' L' → RlF k β S e L a w → wpOps C.P ops Q l a w
  | [], β, S, a, w, e, L, hr, R => by cases hr; exact hQ β S a w R
  | i :: l, β, S, a, w, e, L, hr, R => by
    cases hr with
    | cons h1 h2 h4 =>
      rw [wpOps_cons]
      exact FStep.sound hC hk hn R (FAct.step h1 h2) fun β' S' a' w' R' => run_sound hC hk hn hQ l β' S' a' w' _ _ h4 R'
end
end Go.Proofs.Ytgecpcajmhgboaa.M

/- A region, reckoned. -/

namespace Go.Proofs.Ytgecpcajmhgboaa.M
open Go

def St.e (st : St) : Nat → A := fun t => (lk st.E t).getD .bad

def putE (E : List (Nat × A)) : Option Nat → A → List (Nat × A)
  | some d, x => (d, x) :: E.filter fun p => !Nat.beq p.1 d
  | none, _ => E
def purgeE (E : List (Nat × A)) : List (Nat × Option (List PE)) → List (Nat × A)
  | [] => E
  | c :: cs => E.map fun p => (p.1, purge (c :: cs) p.2)
def setL (L : List (Nat × Blk)) : List (Nat × Blk) → List (Nat × Blk)
  | [] => L
  | (n, b) :: r => (n, b) :: (setL L r).filter fun p => !Nat.beq p.1 n
def killL (L : List (Nat × Blk)) : List (Nat × Option (List PE)) → List (Nat × Blk)
  | [] => L
  | c :: cs => L.filter fun p => !killed (c :: cs) p.1
def hallB (L : List (Nat × Blk)) : List (Nat × Option (List PE)) → Bool
  | [] => true
  | c :: cs => L.all fun p => p.2.all (keepm (c :: cs))
def dstB (np nt : Nat) : Option Nat → Bool
  | some d => Nat.ble np d && Nat.blt d nt
  | none => true

def after (C : Cfg) (d : Option Nat) (st : St) (out : Out) : Option St :=
  if dstB C.np C.nt d && hallB (killL (setL st.L out.upd) out.cut) out.cut then some { E := putE (purgeE st.E out.cut) d out.val, L := killL (setL st.L out.upd) out.cut } else none

theorem lk_filterKey {α : Type} (q : Nat → Bool) : ∀ (l : List (Nat × α)) (n : Nat), lk (l.filter fun p => q p.1) n = if q n = true then lk l n else none
  | [], n => by simp [lk]
  | (m, x) :: l, n => by
    by_cases hm : q m = true
    · rw [List.filter_cons_of_pos (by exact hm), lk_cons, lk_cons, lk_filterKey q l n]
      by_cases e : m = n
      · subst e; simp [hm]
      · rw [if_neg e, if_neg e]
    · rw [List.filter_cons_of_neg (by exact hm), lk_filterKey q l n, lk_cons]
      by_cases e : m = n
      · subst e; simp [hm]
      · rw [if_neg e]

theorem lk_mapVal {α β : Type} (f : α → β) : ∀ (l : List (Nat × α)) (n : Nat), lk (l.map fun p => (p.1, f p.2)) n = (lk l n).map f
  | [], n => rfl
  | (m, x) :: l, n => by
    rw [List.map_cons, lk_cons, lk_cons, lk_mapVal f l n]
    by_cases e : m = n
    · rw [if_pos e, if_pos e]; rfl
    · rw [if_neg e, if_neg e]

theorem beq_false {m n : Nat} (h : m ≠ n) : Nat.beq m n = false := by
  cases hq : Nat.beq m n with
  | false => rfl
  | true => exact absurd (nbeq.1 hq) h

theorem putE_e (E : List (Nat × A)) (d : Option Nat) (x : A) : (fun t => (lk (putE E d x) t).getD .bad) = putF (fun t => (lk E t).getD .bad) d x := by
  funext t
  cases d with
  | none => rfl
  | some d =>
    simp only [putE, putF, lk_cons]
    by_cases h : d = t
    · subst h; simp
    · rw [if_neg h, beq_false (fun q => h q.symm), cond_false, lk_filterKey (fun m => !Nat.beq m d), beq_false (fun q => h q.symm)]
      rfl
theorem purgeE_e (E : List (Nat × A)) (c : List (Nat × Option (List PE))) : (fun t => (lk (purgeE E c) t).getD .bad) = fun t => purge c ((lk E t).getD .bad) := by
  funext t
  cases c with
  | nil => rw [purge_nil]; rfl
  | cons c cs =>
    simp only [purgeE, lk_mapVal]
    cases lk E t with
    | none => rfl
    | some x => rfl
theorem setL_lk (L : List (Nat × Blk)) : ∀ (u : List (Nat × Blk)) (n : Nat), lk (setL L u) n = match lk u n with | some b => some b | none => lk L n
  | [], n => rfl
  | (m, b) :: r, n => by
    simp only [setL, lk_cons]
    by_cases h : m = n
    · rw [if_pos h, if_pos h]
    · rw [if_neg h, if_neg h, lk_filterKey (fun k => !Nat.beq k m), beq_false (fun q => h q.symm)]
      simp only [Bool.not_false, if_true]
      exact setL_lk L r n
theorem killL_lk (L : List (Nat × Blk)) (c : List (Nat × Option (List PE))) (n : Nat) : lk (killL L c) n = if killed c n = true then none else lk L n := by
  cases c with
  | nil => rfl
  | cons c cs =>
    simp only [killL, lk_filterKey (fun k => !killed (c :: cs) k)]
    cases killed (c :: cs) n <;> rfl
theorem mem_lk (L : List (Nat × Blk)) (o : Out) : lk (killL (setL L o.upd) o.cut) = o.mem (lk L) := by
  funext n
  rw [killL_lk]
  unfold Out.mem
  rw [setL_lk]
  cases lk o.upd n <;> rfl

/-- one operation, reckoned -/
theorem after_sound {C : Cfg} {ops : Array Oper} {o : Oper} {st st' : St} {out : Out} (h1 : act C ops st.e (lk st.L) o = some out) (h2 : after C o.dst st out = some st') : FAct C ops o st.e (lk st.L) out st'.e (lk st'.L) := by
  unfold after at h2
  split at h2
  · rename_i hc
    cases h2
    simp only [Bool.and_eq_true] at hc
    refine ⟨h1, ?_, ?_, ?_, mem_lk st.L out⟩
    · intro d hd
      rw [hd] at hc
      simp only [dstB, Bool.and_eq_true] at hc
      exact ⟨Nat.le_of_ble_eq_true hc.1.1, Nat.le_of_ble_eq_true hc.1.2⟩
    · intro m b hm
      rw [← mem_lk] at hm
      have hm := lk_mem hm
      have := hc.2
      cases hcut : out.cut with
      | nil => exact Blk.all_true b
      | cons c cs =>
        rw [hcut] at this hm
        simp only [hallB, List.all_eq_true] at this
        exact this _ hm
    · show (fun t => (lk (putE (purgeE st.E out.cut) o.dst out.val) t).getD .bad) = _
      rw [putE_e, purgeE_e]
      rfl
  · cases h2

def eqb (b : Bool) : Bool → Bool
  | true => b
  | false => !b

inductive GI where
  | yes | no | on (b : Bool) | bad
def guardI (ops : Array Oper) (e : Nat → A) (o : Oper) : GI :=
  match o.guard with
  | none => .yes
  | some (j, want) => match (ops[j]?).bind (·.dst) with
    | none => .no
    | some g => match e g with
      | .pv (.sc .b b) => .on (eqb b want)
      | .und => .no
      | _ => .bad
/-- the slot of a guard, as it is known in a branch -/
def setG (ops : Array Oper) (o : Oper) (b : Bool) (st : St) : St :=
  match o.guard with
  | some (j, want) => match (ops[j]?).bind (·.dst) with
    | some g => { st with E := (g, A.pv (.sc .b (eqb b want))) :: st.E.filter fun p => !Nat.beq p.1 g }
    | none => st
  | none => st

theorem guardI_yes {ops : Array Oper} {e : Nat → A} {o : Oper} (h : guardI ops e o = .yes) : guardF ops e o = some true := by
  unfold guardI at h
  unfold guardF
  split at h
  · rename_i hg; rw [hg]
  · rename_i j want hg
    split at h
    · cases h
    · split at h <;> cases h
theorem guardI_no {ops : Array Oper} {e : Nat → A} {o : Oper} (h : guardI ops e o = .no) : guardF ops e o = some false := by
  unfold guardI at h
  unfold guardF
  split at h
  · cases h
  · rename_i j want hg
    rw [hg]
    simp only
    split at h
    · rename_i hj; rw [hj]
    · rename_i g hj
      rw [hj]
      simp only
      split at h
      · cases h
      · rename_i hu; rw [hu]
      · cases h
theorem eqb_beq (b want : Bool) : (b == want) = eqb b want := by cases b <;> cases want <;> rfl
theorem eqb_eqb (b want : Bool) : eqb (eqb b want) want = b := by cases b <;> cases want <;> rfl
theorem guardI_on {ops : Array Oper} {st : St} {o : Oper} {b : Bool} (h : guardI ops st.e o = .on b) : guardF ops st.e o = some b ∧ (setG ops o b st).e = st.e ∧ (setG ops o b st).L = st.L := by
  unfold guardI at h
  unfold guardF setG
  split at h
  · cases h
  · rename_i j want hg
    rw [hg]
    simp only
    split at h
    · cases h
    · rename_i g hj
      rw [hj]
      simp only
      split at h
      · rename_i b0 hb
        cases h
        rw [hb]
        refine ⟨by simp only [eqb_beq], ?_, by trivial⟩
        funext t
        show (lk ((g, A.pv (.sc .b (eqb (eqb b0 want) want))) :: st.E.filter fun p => !Nat.beq p.1 g) t).getD .bad = st.e t
        rw [eqb_eqb, lk_cons]
        by_cases e : g = t
        · subst e; rw [if_pos rfl, hb]; rfl
        · rw [if_neg e, lk_filterKey (fun m => !Nat.beq m g), beq_false (fun q => e q.symm)]; rfl
      · cases h
      · cases h

/-! ### in whatever order -/
def isBad : A → Bool
  | .bad => true
  | _ => false
def entOf (ops : Array Oper) (o : Oper) (st : St) (out : Out) : Ent :=
  { d := o.dst, R := o.looksAt ops, W := out.writes,
    N := (bif pureMv o then [] else (o.looksAt ops).flatMap (fun t => (st.e t).names) ++ out.val.names) ++ out.upd.flatMap (fun p => p.2.names) ++ out.writes ++ out.writes.flatMap (fun n => match lk st.L n with | some b => b.names | none => []) ++ [o.dst.getD 0]
    V := bif pureMv o then out.val :: (o.looksAt ops).map st.e else []
    X := out.cut }
def entB (ops : Array Oper) (o : Oper) (st : St) : Bool := (o.looksAt ops).all fun t => !isBad (st.e t)

theorem entOf_told {C : Cfg} {ops : Array Oper} {o : Oper} {st : St} {out : Out} (h : entB ops o st = true) : Told ops o st.e (lk st.L) out (entOf ops o st out) where
  d := rfl
  r t ht := by
    refine ⟨ht, ?_, ?_⟩
    · simp only [entB, List.all_eq_true] at h
      have := h t ht
      intro e
      rw [e] at this
      cases this
    · cases hp : pureMv o with
      | true =>
        right
        simp only [entOf, hp, cond_true]
        exact List.mem_cons_of_mem _ (List.mem_map.2 ⟨t, ht, rfl⟩)
      | false =>
        left
        intro n hn
        simp only [entOf, hp, cond_false, List.mem_append, List.mem_flatMap]
        exact .inl (.inl (.inl (.inl (.inl ⟨t, ht, hn⟩))))
  v := by
    cases hp : pureMv o with
    | true =>
      right
      simp only [entOf, hp, cond_true]
      exact List.mem_cons_self
    | false =>
      left
      intro n hn
      simp only [entOf, hp, cond_false, List.mem_append]
      exact .inl (.inl (.inl (.inl (.inr hn))))
  m := by
    cases hp : pureMv o with
    | true => exact .inl rfl
    | false =>
      right
      intro t ht n hn
      simp only [entOf, hp, cond_false, List.mem_append, List.mem_flatMap]
      exact .inl (.inl (.inl (.inl (.inl ⟨t, ht, hn⟩))))
  x := rfl
  u m b hm n hn := by
    simp only [entOf, List.mem_append, List.mem_flatMap]
    exact .inl (.inl (.inl (.inr ⟨_, lk_mem hm, hn⟩)))
  w n hn := hn
  wn n hn := by simp only [entOf, List.mem_append]; exact .inl (.inl (.inr hn))
  old m hm b hb n hn := by
    simp only [entOf, List.mem_append, List.mem_flatMap]
    exact .inl (.inr ⟨m, hm, by rw [hb]; exact hn⟩)
  dn := by simp [entOf]

def apartN (xs ys : List Nat) : Bool := xs.all fun x => !memN x ys
theorem apartN_iff {xs ys : List Nat} (h : apartN xs ys = true) : ∀ n ∈ xs, n ∉ ys := by
  intro n hn hq
  simp only [apartN, List.all_eq_true, Bool.not_eq_true'] at h
  have := h n hn
  rw [memN_iff.2 hq] at this
  cases this
def indepB (a b : Ent) : Bool :=
  (match a.d with
    | some d => !memN d b.R && (match b.d with
      | some d' => !Nat.beq d d'
      | none => true)
    | none => true) &&
  (match b.d with
    | some d => !memN d a.R
    | none => true) && apartN a.W b.N && apartN b.W a.N && (a.V.all fun x => x.all (keepm b.X)) && b.V.all fun x => x.all (keepm a.X)

theorem indepB_sound {a b : Ent} (h : indepB a b = true) : Indep a b := by
  simp only [indepB, Bool.and_eq_true] at h
  obtain ⟨⟨⟨⟨⟨h1, h2⟩, h3⟩, h4⟩, h5⟩, h6⟩ := h
  refine ⟨fun d hd => ?_, fun d hd => ?_, apartN_iff h3, apartN_iff h4, List.all_eq_true.1 h5, List.all_eq_true.1 h6⟩
  · rw [hd] at h1
    simp only [Bool.and_eq_true, Bool.not_eq_true'] at h1
    constructor
    · intro hq
      have := h1.1
      rw [memN_iff.2 hq] at this
      cases this
    · intro hq
      have := h1.2
      rw [hq] at this
      simp at this
  · rw [hd] at h2
    simp only [Bool.not_eq_true'] at h2
    intro hq
    rw [memN_iff.2 hq] at h2
    cases h2

def pairsB (ops : Array Oper) (n : Nat) : List (Nat × Ent) → Bool
  | [] => true
  | p :: l => (l.all fun q => reach ops n p.1 q.1 || indepB p.2 q.2) && pairsB ops n l

def lowB (ops : List Oper) (i : Nat) : Bool :=
  match ops with
  | [] => true
  | o :: r => (o.after.toList.all fun ed => !Region.binds .any ed || Nat.blt ed.on i) && lowB r (i + 1)

theorem pairsB_sound {ops : Array Oper} {n : Nat} : ∀ {l : List (Nat × Ent)}, pairsB ops n l = true → (l.map (·.1)).Pairwise (· < ·) → l.Pairwise (fun p q => p.1 < q.1 ∧ (Indep p.2 q.2 ∨ reach ops n p.1 q.1 = true))
  | [], _, _ => .nil
  | p :: l, h, hs => by
    simp only [pairsB, Bool.and_eq_true, List.all_eq_true, Bool.or_eq_true] at h
    rw [List.map_cons, List.pairwise_cons] at hs
    refine .cons (fun q hq => ⟨hs.1 q.1 (List.mem_map_of_mem hq), ?_⟩) (pairsB_sound h.2 hs.2)
    rcases h.1 q hq with h | h
    · exact .inr h
    · exact .inl (indepB_sound h)

theorem lowB_sound : ∀ (l : List Oper) (i : Nat), lowB l i = true → ∀ (j : Nat) (o : Oper), l[j]? = some o → ∀ ed ∈ o.after, Region.binds .any ed = true → ed.on < i + j
  | [], i, _, j, o, ho, _, _, _ => by simp at ho
  | x :: l, i, h, j, o, ho, ed, hed, hb => by
    simp only [lowB, Bool.and_eq_true, List.all_eq_true] at h
    cases j with
    | zero =>
      simp at ho
      subst ho
      have := h.1 ed (by simpa using hed)
      simp only [hb, Bool.not_true, Bool.false_or] at this
      exact Nat.le_of_ble_eq_true this
    | succ j =>
      have := lowB_sound l (i + 1) h.2 j o (by simpa using ho) ed hed hb
      omega

end Go.Proofs.Ytgecpcajmhgboaa.M

/- The state at the head of a loop: few slots, names in order. -/

namespace Go.Proofs.Ytgecpcajmhgboaa.M
open Go

def blkNames (L : List (Nat × Blk)) (n : Nat) : List Nat := match lk L n with
  | some b => b.names
  | none => []
def liveNames (live : List Nat) (st : St) : List Nat :=
  let n1 := addN [] (live.flatMap fun t => (st.e t).names)
  let n2 := addN n1 (n1.flatMap (blkNames st.L))
  addN n2 (n2.flatMap (blkNames st.L))
def canonL (ns : List Nat) (st : St) : List Nat → List (Nat × Blk)
  | [] => []
  | n :: r => match lk st.L n with
    | some b => (renF ns n, b.ren (renF ns)) :: canonL ns st r
    | none => canonL ns st r

def blksIn (ns : List Nat) (st : St) : Bool := ns.all fun n => match lk st.L n with
  | some b => b.all (isIn ns)
  | none => true

def canon (live : List Nat) (st : St) : Option St :=
  let ns := liveNames live st
  if live.all (fun t => (st.e t).all (isIn ns)) && blksIn ns st then
    some { E := live.map fun t => (t, (st.e t).ren (renF ns)), L := canonL ns st ns }
  else none

theorem canonL_lk {ns : List Nat} {st : St} {n : Nat} : ∀ {l : List Nat}, (∀ m ∈ l, m ∈ ns) → n ∈ l → lk (canonL ns st l) (renF ns n) = (lk st.L n).map (Blk.ren (renF ns))
  | m :: r, hl, hn => by
    have hr : ∀ m ∈ r, m ∈ ns := fun x hx => hl x (by simp [hx])
    unfold canonL
    by_cases e : m = n
    · subst e
      cases hq : lk st.L m with
      | some b => simp only [lk_cons]; rfl
      | none =>
        simp only
        by_cases hm : m ∈ r
        · rw [canonL_lk hr hm, hq]
        · clear hn
          have gen : ∀ {l : List Nat}, (∀ x ∈ l, x ∈ ns) → m ∉ l → lk (canonL ns st l) (renF ns m) = none := by
            intro l
            induction l with
            | nil => intro _ _; rfl
            | cons x l ih =>
              intro h1 h2
              unfold canonL
              have ih := ih (fun y hy => h1 y (by simp [hy])) (fun h => h2 (by simp [h]))
              cases lk st.L x with
              | none => exact ih
              | some b =>
                simp only [lk_cons]
                rw [if_neg (fun q => h2 (by rw [renF_inj (h1 x (by simp)) (hl m (by simp)) q]; simp))]
                exact ih
          rw [gen hr hm]; rfl
    · have hn' : n ∈ r := by
        rcases List.mem_cons.1 hn with h | h
        · exact absurd h.symm e
        · exact h
      cases hq : lk st.L m with
      | some b =>
        simp only [lk_cons]
        rw [if_neg (fun q => e (renF_inj (hl m (by simp)) (hl n (by simp [hn'])) q))]
        exact canonL_lk hr hn'
      | none => exact canonL_lk hr hn'
theorem canonL_inv {ns : List Nat} {st : St} {m : Nat} {b : Blk} : ∀ {l : List Nat}, lk (canonL ns st l) m = some b → ∃ n b0, n ∈ l ∧ m = renF ns n ∧ lk st.L n = some b0 ∧ b = b0.ren (renF ns)
  | [], h => by cases h
  | n :: r, h => by
    unfold canonL at h
    have tail : lk (canonL ns st r) m = some b → ∃ n' b0, n' ∈ n :: r ∧ m = renF ns n' ∧ lk st.L n' = some b0 ∧ b = b0.ren (renF ns) := by
      intro h
      obtain ⟨n', b0, q1, q2⟩ := canonL_inv h
      exact ⟨n', b0, by simp [q1], q2⟩
    cases hq : lk st.L n with
    | some b1 =>
      rw [hq] at h
      simp only [lk_cons] at h
      by_cases e : renF ns n = m
      · rw [if_pos e] at h
        cases h
        exact ⟨n, b1, by simp, e.symm, hq, rfl⟩
      · rw [if_neg e] at h
        exact tail h
    | none =>
      rw [hq] at h
      exact tail h

theorem lk_live {α : Type} (g : Nat → α) : ∀ (live : List Nat) (t : Nat), lk (live.map fun t => (t, g t)) t = if t ∈ live then some (g t) else none
  | [], t => by simp [lk]
  | m :: r, t => by
    rw [List.map_cons, lk_cons, lk_live g r t]
    by_cases e : m = t
    · subst e; simp
    · rw [if_neg e]
      by_cases h : t ∈ r
      · rw [if_pos h, if_pos (by simp [h])]
      · rw [if_neg h, if_neg (by simp [h]; exact fun q => e q.symm)]

theorem canon_core {ns : List Nat} {st : St} (c2 : ∀ n ∈ ns, ∀ b, lk st.L n = some b → b.all (isIn ns) = true) {β : Nat → Value} {S : Nat → Prop} {h : Array Obj} {N0 : Nat} {F : Nat → Prop} (M : MS β S h N0 F (lk st.L)) :
    ∃ β', MS β' S h N0 F (lk (canonL ns st ns)) ∧ (∀ x v, x.all (isIn ns) = true → RepA β S h (lk st.L) x v → RepA β' S h (lk (canonL ns st ns)) (x.ren (renF ns)) v) ∧ ∀ m b, lk (canonL ns st ns) m = some b → ∃ n b0, n ∈ ns ∧ lk st.L n = some b0 ∧ β' m = β n := by
  let L1 : Nat → Option Blk := fun n => if n ∈ ns then lk st.L n else none
  let L2 := lk (canonL ns st ns)
  let β2 : Nat → Value := fun m => match ns.find? (fun n => Nat.beq (renF ns n) m) with
    | some n => β n
    | none => undef
  have hβ2 : ∀ n ∈ ns, β2 (renF ns n) = β n := by
    intro n hn
    show (match ns.find? (fun x => Nat.beq (renF ns x) (renF ns n)) with | some n => β n | none => undef) = β n
    cases hq : ns.find? (fun x => Nat.beq (renF ns x) (renF ns n)) with
    | none =>
      have := List.find?_eq_none.1 hq n hn
      simp at this
    | some x =>
      have h1 := List.find?_some hq
      have h2 := List.mem_of_find?_eq_some hq
      rw [nbeq] at h1
      rw [renF_inj h2 hn h1]
  have hL2 : ∀ n ∈ ns, L2 (renF ns n) = (lk st.L n).map (Blk.ren (renF ns)) := fun n hn => canonL_lk (fun m hm => hm) hn
  have hf : ∀ n b, L1 n = some b → β2 (renF ns n) = β n ∧ L2 (renF ns n) = some (b.ren (renF ns)) := by
    intro n b hb
    by_cases hn : n ∈ ns
    · have hb : lk st.L n = some b := by simpa [L1, hn] using hb
      exact ⟨hβ2 n hn, by rw [hL2 n hn, hb]; rfl⟩
    · simp [L1, hn] at hb
  have K : Keeps β β S S h h (lk st.L) L1 (isIn ns) := by
    refine ⟨fun _ h => h, fun _ _ => rfl, fun v n π hm blk hb => ⟨rfl, blk, ?_, SameAt.refl _ _ _⟩⟩
    have hn : n ∈ ns := memN_iff.1 hm
    show (if n ∈ ns then lk st.L n else none) = some blk
    rw [if_pos hn]; exact hb
  have inv : ∀ m b, L2 m = some b → ∃ n b0, n ∈ ns ∧ m = renF ns n ∧ lk st.L n = some b0 ∧ b = b0.ren (renF ns) := fun m b hb => canonL_inv hb
  have M2 : MS β2 S h N0 F L2 := by
    refine ⟨?_, ?_, ?_, M.bound⟩
    · intro m b hb
      obtain ⟨n, b0, h1, rfl, h3, rfl⟩ := inv m b hb
      have hok := (M.blk n b0 h3).mono K rfl (fun _ _ => rfl) (c2 n h1 b0 h3)
      exact hok.ren (fun _ h => h) hf (hβ2 n h1)
    · intro m b hb q hq
      obtain ⟨n, b0, h1, rfl, h3, rfl⟩ := inv m b hb
      rw [hβ2 n h1] at hq
      exact M.own n b0 h3 q hq
    · intro m m' hne h1 h2 q hq
      obtain ⟨b, hb⟩ := Option.isSome_iff_exists.1 h1
      obtain ⟨b', hb'⟩ := Option.isSome_iff_exists.1 h2
      obtain ⟨n, b0, i1, rfl, i3, rfl⟩ := inv m b hb
      obtain ⟨n', b0', j1, rfl, j3, rfl⟩ := inv m' b' hb'
      rw [hβ2 n i1] at hq
      rw [hβ2 n' j1]
      exact M.sep n n' (fun e => hne (by rw [e])) (by rw [i3]; rfl) (by rw [j3]; rfl) q hq
  refine ⟨β2, M2, fun x v hx r => (r.mono K hx).ren (fun _ h => h) hf, fun m b hb => ?_⟩
  obtain ⟨n, b0, h1, rfl, h3, _⟩ := inv m b hb
  exact ⟨n, b0, h1, h3, hβ2 n h1⟩

theorem blksIn_sound {ns : List Nat} {st : St} (h : blksIn ns st = true) : ∀ n ∈ ns, ∀ b, lk st.L n = some b → b.all (isIn ns) = true := by
  intro n hn b hb
  simp only [blksIn, List.all_eq_true] at h
  have := h n hn
  rw [hb] at this
  exact this

theorem canon_sound2 {live : List Nat} {st st' : St} (h : canon live st = some st') {k : Wk} {β : Nat → Value} {S : Nat → Prop} {a : Act} {w : World} (R : RlF k β S st.e (lk st.L) a w) : ∃ β', RlF k β' S st'.e (lk st'.L) a w ∧ ∀ m b, lk st'.L m = some b → ∃ n b0, n ∈ liveNames live st ∧ lk st.L n = some b0 ∧ β' m = β n := by
  unfold canon at h
  simp only at h
  generalize liveNames live st = ns at h
  split at h
  · rename_i hc
    cases h
    simp only [Bool.and_eq_true] at hc
    obtain ⟨c1, c2⟩ := hc
    rw [List.all_eq_true] at c1
    obtain ⟨β2, M2, tr, inv⟩ := canon_core (blksIn_sound c2) R.rl.mem
    refine ⟨β2, ⟨{ R.rl with mem := M2, env := fun t x hx => by cases hx }, fun t => ?_, fun t ht => ?_⟩, inv⟩
    · show RepA β2 S w.heap _ ((lk (live.map fun t => (t, (st.e t).ren (renF ns))) t).getD .bad) (a.tmps.getD t undef)
      rw [lk_live (fun t => (st.e t).ren (renF ns))]
      by_cases ht : t ∈ live
      · rw [if_pos ht]
        exact tr _ _ (c1 t ht) (R.env t)
      · rw [if_neg ht]; exact RepA.bad _
    · show (lk (live.map fun t => (t, (st.e t).ren (renF ns))) t).getD .bad = .bad
      rw [lk_live (fun t => (st.e t).ren (renF ns))]
      by_cases ht' : t ∈ live
      · rw [if_pos ht', R.big t ht]; rfl
      · rw [if_neg ht']; rfl
  · cases h
theorem canon_sound {live : List Nat} {st st' : St} (h : canon live st = some st') {k : Wk} {β : Nat → Value} {S : Nat → Prop} {a : Act} {w : World} (R : RlF k β S st.e (lk st.L) a w) : ∃ β', RlF k β' S st'.e (lk st'.L) a w := by
  obtain ⟨β', h1, _⟩ := canon_sound2 h R
  exact ⟨β', h1⟩
end Go.Proofs.Ytgecpcajmhgboaa.M

/- Code; a function. -/


namespace Go.Proofs.Ytgecpcajmhgboaa.M
open Go

inductive Ex where
  | normal | exit (id : Nat) | ret
def Ex.to : Ex → Exit
  | .normal => .normal | .exit i => .exit i | .ret => .ret

end Go.Proofs.Ytgecpcajmhgboaa.M

/- A function. -/

namespace Go.Proofs.Ytgecpcajmhgboaa.M
open Go

mutual
/-- no slices or addresses that are only read -/
def PV.flat : PV → Bool
  | .sc _ _ => true
  | .arr _ _ _ => true
  | .st fs => PV.flats fs
  | .ar _ xs => PV.flats xs
  | .sl _ _ => false
  | .sp _ _ => false
  | .nilp => true
  | .nilm => true
  | .raw _ => true
def PV.flats : List PV → Bool
  | [] => true
  | x :: xs => x.flat && PV.flats xs
end
mutual
def A.flat : A → Bool
  | .pv x => x.flat
  | .rp _ => false
  | .st fs => A.flats fs
  | .tup fs => A.flats fs
  | .fn _ fs => A.flats fs
  | _ => true
def A.flats : List A → Bool
  | [] => true
  | x :: xs => x.flat && A.flats xs
end
def Blk.flat : Blk → Bool
  | .box c => c.flat
  | .row (.s _ _) _ => true
  | .row (.p _ xs) _ => PV.flats xs
  | .map kv => PV.flats (kv.map (·.1)) && PV.flats (kv.map (·.2))

section
variable {β : Nat → Value} {S S2 : Nat → Prop} {h : Array Obj} {L : Nat → Option Blk}
mutual
theorem RepPV.flat' : ∀ {x : PV} {vs : List Value}, RepPV S h x vs → x.flat = true → RepPV S2 h x vs
  | _, _, .sc k x, _ => .sc k x
  | _, _, .arr k n v, _ => .arr k n v
  | _, _, .st r, e => .st (RepL.flat' r (by simpa [PV.flat] using e))
  | _, _, .ar q r, e => .ar q (RepL.flat' r (by simpa [PV.flat] using e))
  | _, _, .sl .., e => by simp [PV.flat] at e
  | _, _, .sp .., e => by simp [PV.flat] at e
  | _, _, .nilp, _ => .nilp
  | _, _, .nilm, _ => .nilm
  | _, _, .raw a b, _ => .raw a b
theorem RepL.flat' : ∀ {xs : List PV} {vs : List Value}, RepL S h xs vs → PV.flats xs = true → RepL S2 h xs vs
  | _, _, .nil, _ => .nil
  | _, _, .cons a r, e => by
    simp only [PV.flats, Bool.and_eq_true] at e
    exact .cons (RepPV.flat' a e.1) (RepL.flat' r e.2)
end
mutual
theorem RepC.flat' : ∀ {x vs}, RepC β S h L x vs → x.flat = true → RepC β S2 h L x vs
  | _, _, .pv r, e => .pv (r.flat' e)
  | _, _, .st r, e => .st (RepCL.flat' r (by simpa [A.flat] using e))
  | _, _, .p a b c, _ => .p a b c
  | _, _, .pr a b c d e f, _ => .pr a b c d e f
  | _, _, .rp .., e => by simp [A.flat] at e
  | _, _, .o a b, _ => .o a b
  | _, _, .vw a b c d e f g, _ => .vw a b c d e f g
  | _, _, .tup r, e => .tup (RepT.flat' r (by simpa [A.flat] using e))
  | _, _, .fn r, e => .fn (RepT.flat' r (by simpa [A.flat] using e))
  | _, _, .und, _ => .und
  | _, _, .bad, _ => .bad
theorem RepCL.flat' : ∀ {xs vs}, RepCL β S h L xs vs → A.flats xs = true → RepCL β S2 h L xs vs
  | _, _, .nil, _ => .nil
  | _, _, .cons a r, e => by
    simp only [A.flats, Bool.and_eq_true] at e
    exact .cons (RepC.flat' a e.1) (RepCL.flat' r e.2)
theorem RepT.flat' : ∀ {xs vs}, RepT β S h L xs vs → A.flats xs = true → RepT β S2 h L xs vs
  | _, _, .nil, _ => .nil
  | _, _, .cons a r, e => by
    simp only [A.flats, Bool.and_eq_true] at e
    exact .cons (RepC.flat' a e.1) (RepT.flat' r e.2)
end
theorem RepA.flat' {x : A} {v : Value} (r : RepA β S h L x v) (e : x.flat = true) : RepA β S2 h L x v := by
  obtain ⟨vs, r, q⟩ := r
  exact ⟨vs, r.flat' e, q⟩
theorem RepRC.flat' {rc : RC} {vs : List Value} {ex : Bool} (r : RepRC S h rc vs) (e : (Blk.row rc ex).flat = true) : RepRC S2 h rc vs := by
  cases r with
  | s k xs => exact .s k xs
  | p q r => exact .p q (r.flat' (by simpa [Blk.flat] using e))
theorem RepM.flat' : ∀ {kv : List (PV × PV)} {es : List MapEntry}, RepM S h kv es → PV.flats (kv.map (·.1)) = true → PV.flats (kv.map (·.2)) = true → RepM S2 h kv es
  | _, _, .nil, _, _ => .nil
  | _, _, .cons a b c d r, e1, e2 => by
    simp only [List.map_cons, PV.flats, Bool.and_eq_true] at e1 e2
    exact .cons (a.flat' e1.1) (b.flat' e2.1) c d (RepM.flat' r e1.2 e2.2)
theorem MS.flat' {N0 : Nat} {F : Nat → Prop} (M : MS β S h N0 F L) (e : ∀ n b, L n = some b → b.flat = true) : MS β (fun _ => False) h N0 F L where
  blk n b hb := by
    have := M.blk n b hb
    have he := e n b hb
    cases b with
    | box c =>
      obtain ⟨b, cs, T, h1, h2, h3⟩ := this
      exact ⟨b, cs, T, h1, h2, h3.flat' he⟩
    | row rc ex =>
      obtain ⟨a, cap, h1, h2, h3, h4⟩ := this
      refine ⟨a, cap, h1, h2, h3, ?_⟩
      rcases h4 with h4 | ⟨b, o, cs, T, q1, q2, q3, X, vs, Y, q4, q5, q6⟩
      · exact .inl h4
      · exact .inr ⟨b, o, cs, T, q1, q2, q3, X, vs, Y, q4, q5, q6.flat' he⟩
    | map kv =>
      obtain ⟨r, es, clock, h1, h2, h3, h4⟩ := this
      simp only [Blk.flat, Bool.and_eq_true] at he
      exact ⟨r, es, clock, h1, h2, h3.flat' he.1 he.2, h4⟩
  own n b hb k hk := ⟨fun h => h, (M.own n b hb k hk).2⟩
  sep := M.sep
  bound k hk := hk.elim
end

def resA (C : Cfg) (st : St) : ResultVar → Option A
  | .tmp t => some (st.e t)
  | .cell a t => opLoad C.P (lk st.L) t (st.e a)
def resAs (C : Cfg) (st : St) : List ResultVar → Option (List A)
  | [] => some []
  | r :: rs => (resA C st r).bind fun x => (resAs C st rs).map (x :: ·)
def one : List A → A
  | [x] => x
  | xs => .tup xs
def resNames (L : List (Nat × Blk)) (vs : List A) : List Nat :=
  let n1 := addN [] (vs.flatMap A.names)
  let n2 := addN n1 (n1.flatMap (blkNames L))
  addN n2 (n2.flatMap (blkNames L))
/-- hs: the arguments that were handed in to be written -/
def outNs (hs : List Nat) (st : St) (v : A) : List Nat := resNames st.L (v :: hs.map st.e)
def outOk (hs : List Nat) (st : St) (v : A) : Bool := (v :: hs.map st.e).all (fun x => x.all (isIn (outNs hs st v))) && blksIn (outNs hs st v) st
def outFl (hs : List Nat) (st : St) (v : A) : Bool := (v.ren (renF (outNs hs st v))).flat && hs.all fun i => ((st.e i).ren (renF (outNs hs st v))).flat
def loL (l : List (Nat × Blk)) : List (Nat × Blk) := l.map fun p => (p.1, p.2.lo)
def outBl (hs : List Nat) (st : St) (v : A) : List (Nat × Blk) := loL (canonL (outNs hs st v) st (outNs hs st v))
def outMk (hs : List Nat) (st : St) (v : A) (f : Bool) : CallOut :=
  { val := v.ren (renF (outNs hs st v)), blks := outBl hs st v, flat := f, roots := hs.map fun i => (i, (st.e i).ren (renF (outNs hs st v))) }
def outOf (C : Cfg) (rs : List ResultVar) (hs : List Nat) (st : St) : Option CallOut :=
  (resAs C st rs).bind fun xs => if outOk hs st (one xs) = true then some (outMk hs st (one xs) (!C.nf && outFl hs st (one xs) && (outBl hs st (one xs)).all fun p => p.2.flat)) else none

theorem loL_lk {n : Nat} : ∀ {l : List (Nat × Blk)}, lk (loL l) n = (lk l n).map Blk.lo
  | [] => rfl
  | (m, b) :: l => by
    rw [loL, List.map_cons, lk_cons, lk_cons, ← loL, loL_lk]
    split <;> rfl
theorem lo_core {β : Nat → Value} {S : Nat → Prop} {h : Array Obj} {N0 : Nat} {F : Nat → Prop} {l : List (Nat × Blk)} (M : MS β S h N0 F (lk l)) :
    MS β S h N0 F (lk (loL l)) ∧ ∀ x v, RepA β S h (lk l) x v → RepA β S h (lk (loL l)) x v := by
  have K : Keeps β β S S h h (lk l) (lk (loL l)) (fun _ _ _ => true) := by
    refine ⟨fun _ h => h, fun _ _ => rfl, fun v n π _ blk hb => ⟨rfl, blk.lo, by rw [loL_lk, hb]; rfl, Blk.lo_same _ _ _⟩⟩
  have inv : ∀ n b, lk (loL l) n = some b → ∃ b0, lk l n = some b0 ∧ b = b0.lo := by
    intro n b hb
    rw [loL_lk] at hb
    cases h0 : lk l n with
    | none => rw [h0] at hb; cases hb
    | some b0 => rw [h0] at hb; cases hb; exact ⟨b0, rfl, rfl⟩
  refine ⟨⟨fun n b hb => ?_, fun n b hb => ?_, fun n m hne h1 h2 => ?_, M.bound⟩, fun x v r => r.mono K (A.all_true x)⟩
  · obtain ⟨b0, h0, rfl⟩ := inv n b hb
    have := (M.blk n b0 h0).mono K rfl (fun _ _ => rfl) (by cases b0 with | box c => exact A.all_true c | row _ _ => rfl | map _ => rfl)
    cases b0 with
    | box c => exact this
    | row rc ex =>
      obtain ⟨a, cap, q1, q2, _, q4⟩ := this
      exact ⟨a, cap, q1, q2, (fun e => by cases e), q4⟩
    | map kv => exact this
  · obtain ⟨b0, h0, rfl⟩ := inv n b hb
    exact M.own n b0 h0
  · refine M.sep n m hne ?_ ?_
    · rw [loL_lk] at h1; cases h0 : lk l n <;> rw [h0] at h1 <;> first | rfl | cases h1
    · rw [loL_lk] at h2; cases h0 : lk l m <;> rw [h0] at h2 <;> first | rfl | cases h2
def initE : List A → Nat → List (Nat × A)
  | [], _ => []
  | x :: xs, i => (i, x) :: initE xs (i + 1)

section
variable {C : Cfg}

theorem resA_run {k : Wk} {β : Nat → Value} {S : Nat → Prop} {a : Act} {w : World} {st : St} (R : RlF k β S st.e (lk st.L) a w) {r : ResultVar} {x : A} (h : resA C st r = some x) :
    ∃ v, (match r with | .tmp t => pure (a.tmps.getD t undef) | .cell b t => do loadVar t (← asAddr (a.tmps.getD b undef)) : Sem Value).run C.P w = .ok v w ∧ RepA β S w.heap (lk st.L) x v := by
  cases r with
  | tmp t =>
    simp only [resA, Option.some.injEq] at h
    subst h
    exact ⟨_, rfl, R.env t⟩
  | cell b t =>
    simp only [resA] at h
    obtain ⟨u, h1, h2⟩ := loads R.rl.mem h (R.env b)
    refine ⟨u, ?_, h2⟩
    simp only [Sem.run_bind]
    generalize a.tmps.getD b undef = v at h1
    cases v with
    | pointer p =>
      cases p with
      | none => simp [Instr.loadAt, Instr.sureAddr, Result.andThen] at h1
      | some ad => simpa [Instr.loadAt, Instr.sureAddr, asAddr] using h1
    | _ => simp [Instr.loadAt, Instr.sureAddr, Result.andThen] at h1

theorem resAs_run {k : Wk} {β : Nat → Value} {S : Nat → Prop} {a : Act} {w : World} {st : St} (R : RlF k β S st.e (lk st.L) a w) : ∀ {rs : List ResultVar} {xs : List A}, resAs C st rs = some xs →
    ∃ vs, (rs.mapM fun r => (match r with | .tmp t => pure (a.tmps.getD t undef) | .cell b t => do loadVar t (← asAddr (a.tmps.getD b undef)) : Sem Value)).run C.P w = .ok vs w ∧ RepAs β S w.heap (lk st.L) xs vs
  | [], xs, h => by
    simp only [resAs, Option.some.injEq] at h
    subst h
    exact ⟨[], rfl, .nil⟩
  | r :: rs, xs, h => by
    simp only [resAs, Option.bind_eq_some_iff, Option.map_eq_some_iff] at h
    obtain ⟨x, hx, ys, hys, rfl⟩ := h
    obtain ⟨v, h1, h2⟩ := resA_run R hx
    obtain ⟨vs, h3, h4⟩ := resAs_run R hys
    refine ⟨v :: vs, ?_, .cons h2 h4⟩
    rw [List.mapM_cons, Sem.run_bind, h1]
    simp only [Result.andThen_ok, Sem.run_bind, h3, Sem.run_pure]

theorem RepAs.toT {β : Nat → Value} {S : Nat → Prop} {h : Array Obj} {L : Nat → Option Blk} : ∀ {xs : List A} {vs : List Value}, RepAs β S h L xs vs → RepT β S h L xs vs
  | _, _, .nil => .nil
  | _, _, .cons ⟨us, r, e⟩ rest => by subst e; exact .cons r rest.toT

theorem one_rep {β : Nat → Value} {S : Nat → Prop} {h : Array Obj} {L : Nat → Option Blk} {xs : List A} {vs : List Value} (r : RepAs β S h L xs vs) :
    RepA β S h L (one xs) (if hh : vs.toArray.size = 1 then vs.toArray[0] else .tuple vs.toArray) := by
  cases r with
  | nil => exact ⟨_, .tup .nil, rfl⟩
  | cons a r =>
    cases r with
    | nil => exact a
    | cons b r =>
      rename_i x v y u xs vs
      have hne : ¬ (v :: u :: vs).toArray.size = 1 := by simp
      rw [dif_neg hne]
      exact ⟨_, .tup (RepAs.cons a (.cons b r)).toT, rfl⟩

theorem initE_lk : ∀ (args : List A) (i t : Nat), lk (initE args i) t = if i ≤ t then args[t - i]? else none
  | [], i, t => by simp [initE, lk]
  | x :: xs, i, t => by
    simp only [initE, lk_cons, initE_lk xs (i + 1) t]
    by_cases h : i = t
    · subst h; simp
    · rw [if_neg h]
      by_cases h2 : i ≤ t
      · rw [if_pos h2, if_pos (by omega)]
        have : t - i = (t - (i + 1)) + 1 := by omega
        rw [this, List.getElem?_cons_succ]
      · rw [if_neg h2, if_neg (by omega)]

end
end Go.Proofs.Ytgecpcajmhgboaa.M

/- The operations that ask something: the condition is written down. -/

namespace Go.Proofs.Ytgecpcajmhgboaa.M
open Go

/-- a condition that is asked, or none -/
abbrev Cn := Option Prop
@[reducible] def Cn.h : Cn → Prop
  | none => True
  | some p => p
@[reducible] def Cn.and : Cn → Prop → Cn
  | none, p => some p
  | some q, p => some (q ∧ p)
theorem Cn.and_h {c : Cn} {p : Prop} (h : (c.and p).h) : c.h ∧ p := by cases c with | none => exact ⟨trivial, h⟩ | some q => exact h

def PV.scv (k : EK) : PV → k.T
  | .sc k' x => (EK.cast k' k x).getD k.zero
  | _ => k.zero
def castVec {k k' : EK} {n n' : Nat} (h : k' = k ∧ n' = n) (v : Vector k'.T n') : Vector k.T n := h.1 ▸ h.2 ▸ v
def PV.vecv (k : EK) (n : Nat) : PV → Vector k.T n
  | .arr k' n' v => if h : k' = k ∧ n' = n then castVec h v else Vector.replicate n k.zero
  | _ => Vector.replicate n k.zero
def PV.fld (j : Nat) : PV → PV
  | .st fs => fs.getD j .nilp
  | _ => .nilp
def PV.els : PV → List PV
  | .ar _ xs => xs
  | .sp _ xs => xs
  | _ => []
def castList {k k' : EK} (h : k' = k) (v : List k'.T) : List k.T := h ▸ v
def PV.slv (k : EK) : PV → List k.T
  | .sl k' xs => if h : k' = k then castList h xs else []
  | _ => []

/-- a type's data, in short -/
inductive TY where
  | sc (k : EK) | arr (k : EK) (n : Nat) | st (fs : List TY) | ar (sz : Nat) | sl (k : EK) | sp (sz : Nat) | p
def tyOf (P : Program) : Nat → TypeId → Option TY
  | 0, _ => none
  | d + 1, t =>
    match P.underlying t with
    | some (.array n e) => match ekT P e with
      | some k => some (.arr k n)
      | none => (szT P e).map .ar
    | some (.struct fs) => (fs.toList.mapM fun f => tyOf P d f.type).map .st
    | some (.slice e) => match ekT P e with
      | some k => some (.sl k)
      | none => (szT P e).map .sp
    | some (.pointer _) => some .p
    | some u => (kindOf u).map .sc
    | none => none
mutual
/-- in its type's own form -/
def TY.eta : TY → PV → PV
  | .sc k, x => .sc k (x.scv k)
  | .arr k n, x => .arr k n (x.vecv k n)
  | .st fs, x => .st (TY.etas fs x 0)
  | .ar sz, x => .ar sz x.els
  | .sl k, x => .sl k (x.slv k)
  | .sp sz, x => .sp sz x.els
  | .p, _ => .nilp
def TY.etas : List TY → PV → Nat → List PV
  | [], _, _ => []
  | t :: ts, x, j => t.eta (x.fld j) :: TY.etas ts x (j + 1)
end
mutual
/-- is it in that form? -/
def TY.chk : TY → PV → Bool
  | .sc k, .sc k' _ => decide (k' = k)
  | .arr k n, .arr k' n' _ => decide (k' = k) && Nat.beq n' n
  | .st fs, .st xs => TY.chks fs xs
  | .ar sz, .ar sz' _ => Nat.beq sz' sz
  | .sl k, .sl k' _ => decide (k' = k)
  | .sp sz, .sp sz' _ => Nat.beq sz' sz
  | .p, .nilp => true
  | _, _ => false
def TY.chks : List TY → List PV → Bool
  | [], [] => true
  | t :: ts, x :: xs => t.chk x && TY.chks ts xs
  | _, _ => false
end
theorem EK.cast_same (k : EK) (x : k.T) : EK.cast k k x = some x := by cases k <;> rfl
mutual
theorem TY.chk_eta : ∀ {t : TY} {x : PV}, t.chk x = true → t.eta x = x
  | .sc k, x, h => by
    cases x <;> simp [TY.chk] at h
    subst h
    simp [TY.eta, PV.scv, EK.cast_same]
  | .arr k n, x, h => by
    cases x <;> simp [TY.chk] at h
    obtain ⟨rfl, h⟩ := h
    subst h
    simp [TY.eta, PV.vecv, castVec]
  | .st fs, x, h => by
    cases x with
    | st xs =>
      simp only [TY.chk] at h
      simp only [TY.eta]
      exact congrArg PV.st (TY.chks_etas (xs := xs) (pre := []) h rfl)
    | _ => simp [TY.chk] at h
  | .ar sz, x, h => by
    cases x <;> simp [TY.chk] at h
    subst h; rfl
  | .sl k, x, h => by
    cases x <;> simp [TY.chk] at h
    subst h
    simp [TY.eta, PV.slv, castList]
  | .sp sz, x, h => by
    cases x <;> simp [TY.chk] at h
    subst h; rfl
  | .p, x, h => by
    cases x <;> simp [TY.chk] at h
    rfl
theorem TY.chks_etas : ∀ {ts : List TY} {xs pre : List PV}, TY.chks ts xs = true → ∀ {j : Nat}, pre.length = j → TY.etas ts (.st (pre ++ xs)) j = xs
  | [], xs, pre, h, j, hj => by
    cases xs with
    | nil => rfl
    | cons _ _ => simp [TY.chks] at h
  | t :: ts, xs, pre, h, j, hj => by
    cases xs with
    | nil => simp [TY.chks] at h
    | cons x xs =>
      simp only [TY.chks, Bool.and_eq_true] at h
      simp only [TY.etas]
      have e : (PV.st (pre ++ x :: xs)).fld j = x := by
        subst hj
        simp [PV.fld, List.getD]
      rw [e, TY.chk_eta h.1]
      have := TY.chks_etas (pre := pre ++ [x]) h.2 (j := j + 1) (by simp [hj])
      rw [List.append_assoc, List.singleton_append] at this
      rw [this]
end

def binW (op : BinOp) (x y : PV) : Option (Cn × PV) :=
  match op, x, y with
  | .quo, .sc .u8 x, .sc .u8 y => some (some (y ≠ 0), .sc .u8 (x / y)) | .rem, .sc .u8 x, .sc .u8 y => some (some (y ≠ 0), .sc .u8 (x % y))
  | .quo, .sc .u16 x, .sc .u16 y => some (some (y ≠ 0), .sc .u16 (x / y)) | .rem, .sc .u16 x, .sc .u16 y => some (some (y ≠ 0), .sc .u16 (x % y))
  | .quo, .sc .u32 x, .sc .u32 y => some (some (y ≠ 0), .sc .u32 (x / y)) | .rem, .sc .u32 x, .sc .u32 y => some (some (y ≠ 0), .sc .u32 (x % y))
  | .quo, .sc .u64 x, .sc .u64 y => some (some (y ≠ 0), .sc .u64 (x / y)) | .rem, .sc .u64 x, .sc .u64 y => some (some (y ≠ 0), .sc .u64 (x % y))
  | .quo, .sc .i x, .sc .i y => some (some (y ≠ (0 : Int)), .sc .i (w64 (Int.tdiv x y))) | .rem, .sc .i x, .sc .i y => some (some (y ≠ (0 : Int)), .sc .i (Int.tmod x y))
  | .shl, x, .sc .i c => (shiftBy true x (Int.toNat c)).map fun r => (some ((0 : Int) ≤ c), r)
  | .shr, x, .sc .i c => (shiftBy false x (Int.toNat c)).map fun r => (some ((0 : Int) ≤ c), r)
  | op, x, y => (binSc op x y).map fun r => (none, r)

theorem binW_sound {op : BinOp} {x y r : PV} {p : Cn} (h : binW op x y = some (p, r)) (hp : p.h) : binSc op x y = some r := by
  unfold binW at h
  split at h <;> first
    | (simp only [Option.some.injEq, Prod.mk.injEq] at h; obtain ⟨rfl, rfl⟩ := h; simp only [binSc, bin_u8, bin_u16, bin_u32, bin_u64, bin_i]; exact if_neg hp)
    | (simp only [Option.map_eq_some_iff, Prod.mk.injEq] at h; obtain ⟨q, h1, rfl, rfl⟩ := h; simp only [binSc, cnt]; rw [if_pos hp]; exact h1)
    | (simp only [Option.map_eq_some_iff, Prod.mk.injEq] at h; obtain ⟨q, h1, rfl, rfl⟩ := h; exact h1)

def boundsW (len : Nat) (cap : Option Nat) (lo hi mx : Option Int) : Option (Cn × Nat × Nat × Option Nat) :=
  match mx with
  | none => some (some (0 ≤ lo.getD 0 ∧ lo.getD 0 ≤ hi.getD (len : Int) ∧ hi.getD (len : Int) ≤ ((cap.getD len : Nat) : Int)), (lo.getD 0).toNat, (hi.getD (len : Int)).toNat, cap)
  | some m => match hi with
    | some h => some (some (0 ≤ lo.getD 0 ∧ lo.getD 0 ≤ h ∧ h ≤ m ∧ m ≤ ((cap.getD len : Nat) : Int)), (lo.getD 0).toNat, h.toNat, some m.toNat)
    | none => none
theorem boundsW_sound {len : Nat} {cap : Option Nat} {lo hi mx : Option Int} {p : Cn} {r : Nat × Nat × Option Nat} (h : boundsW len cap lo hi mx = some (p, r)) (hp : p.h) : bounds len cap lo hi mx = some r := by
  unfold boundsW at h
  unfold bounds
  split at h
  · simp only [Option.some.injEq, Prod.mk.injEq] at h
    obtain ⟨rfl, rfl⟩ := h
    exact if_pos hp
  · split at h
    · simp only [Option.some.injEq, Prod.mk.injEq] at h
      obtain ⟨rfl, rfl⟩ := h
      exact if_pos hp
    · cases h

section
variable (P : Program)

def opIndexAddrW (L : Nat → Option Blk) (t : TypeId) (x : A) (j : Int) : Option (Cn × A) :=
  (arrElem P t).bind fun e => (szT P e).bind fun s =>
  match x with
  | .p n π => (L n).bind fun b => match b, π with
    | .row (.p sz xs) _, .i i :: π' => match P.underlying t with
      | some (.array N _) => bif Nat.beq s 1 then some (some ((0 ≤ j ∧ j < N) ∧ M.arrLen (.pv (RC.get (.p sz xs) (.i i :: π'))) = some (N, 1)), .p n (.i i :: π' ++ [.i j.toNat])) else none
      | _ => none
    | b, π => match P.underlying t, arrLen (b.get π) with
      | some (.array N _), some (N', sz) => if Nat.beq N N' && Nat.beq s sz then some (some (0 ≤ j ∧ j < N), .p n (π ++ [.i j.toNat])) else none
      | _, _ => none
  | .rp (.arr k n v) => match P.underlying t with
    | some (.array N _) => if Nat.beq N n && Nat.beq s 1 then some (some (0 ≤ j ∧ j < N), .rp (.sc k (v.toList.getD j.toNat k.zero))) else none
    | _ => none
  | .rp (.ar sz xs) => match P.underlying t with
    | some (.array N _) => if Nat.beq s sz then (tyOf P 8 e).map fun ty => (some ((xs.length = N ∧ 0 ≤ j ∧ j < N) ∧ ty.chk (xs.getD j.toNat .nilp) = true), .rp (ty.eta (xs.getD j.toNat .nilp))) else none
    | _ => none
  | .o n => (L n).bind fun b => match P.underlying t, b with
    | some (.slice _), .row rc _ => if Nat.beq s rc.sz then some (some (0 ≤ j ∧ j < rc.len), .p n [.i j.toNat]) else none
    | _, _ => none
  | .vw n π off len _ => (L n).bind fun b => match P.underlying t, b.arrLen π with
    | some (.slice _), some (_, sz) => if Nat.beq s sz then some (some (0 ≤ j ∧ j < len), .p n (π ++ [.i (off + j.toNat)])) else none
    | _, _ => none
  | .pv (.sl k xs) => match P.underlying t with
    | some (.slice _) => if Nat.beq s 1 then some (some (0 ≤ j ∧ j < xs.length), .rp (.sc k (xs.getD j.toNat k.zero))) else none
    | _ => none
  | .pv (.sp sz xs) => match P.underlying t with
    | some (.slice _) => if Nat.beq s sz then (tyOf P 8 e).map fun ty => (some ((0 ≤ j ∧ j < xs.length) ∧ ty.chk (xs.getD j.toNat .nilp) = true), .rp (ty.eta (xs.getD j.toNat .nilp))) else none
    | _ => none
  | _ => none

def opSliceW (L : Nat → Option Blk) (t : TypeId) (x : A) (lo hi mx : Option Int) : Option (Cn × A) :=
  (arrElem P t).bind fun e => (szT P e).bind fun s =>
  match x with
  | .p n π => (L n).bind fun b => match P.underlying t, arrLen (b.get π) with
    | some (.array N _), some (N', sz) => if Nat.beq N N' && Nat.beq s sz then
        (boundsW N (some N) lo hi mx).map fun (p, l, h, m) => (p, .vw n π l (h - l) (m.map (· - l))) else none
    | _, _ => none
  | .rp (.arr k n v) => match P.underlying t with
    | some (.array N _) => if Nat.beq N n && Nat.beq s 1 then (boundsW N (some N) lo hi mx).map fun (p, l, h, _) => (p, .pv (.sl k ((v.toList.drop l).take (h - l)))) else none
    | _ => none
  | .o n => (L n).bind fun b => match P.underlying t, b with
    | some (.slice _), .row rc ex => if Nat.beq s rc.sz then
        (boundsW rc.len (bif ex then some rc.len else none) lo hi mx).map fun (p, l, h, m) => (p, .vw n [] l (h - l) (m.map (· - l))) else none
    | _, _ => none
  | .vw n π off len cap => (L n).bind fun b => match P.underlying t, b.arrLen π with
    | some (.slice _), some (_, sz) => if Nat.beq s sz then
        (boundsW len cap lo hi mx).map fun (p, l, h, m) => (p, .vw n π (off + l) (h - l) (m.map (· - l))) else none
    | _, _ => none
  | .pv (.sl k xs) => match P.underlying t with
    | some (.slice _) => if Nat.beq s 1 then (boundsW xs.length none lo hi mx).map fun (p, l, h, _) => (p, .pv (.sl k ((xs.drop l).take (h - l)))) else none
    | _ => none
  | .pv (.sp sz xs) => match P.underlying t with
    | some (.slice _) => if Nat.beq s sz then (boundsW xs.length none lo hi mx).map fun (p, l, h, _) => (p, .pv (.sp sz ((xs.drop l).take (h - l)))) else none
    | _ => none
  | _ => none

def opS2AW (L : Nat → Option Blk) (t : TypeId) (x : A) : Option (Cn × A) :=
  match P.underlying t with
  | some (.array n e) => (szT P e).bind fun s => match x with
    | .pv (.sl k xs) => if Nat.beq s 1 then some (some (n ≤ xs.length ∧ 0 < n), .rp ((RC.s k xs).arr 0 n)) else none
    | .vw m π off len _ => (L m).bind fun b => match b.arrLen π with
      | some (_, sz) => if Nat.beq s sz then some (some (n ≤ len ∧ 0 < n), .pr m π off n) else none
      | none => none
    | .o m => (L m).bind fun b => match b with
      | .row rc _ => if Nat.beq s rc.sz then some (some (n ≤ rc.len ∧ 0 < n), .pr m [] 0 n) else none
      | _ => none
    | _ => none
  | _ => none

end

section
variable {P : Program} {L : Nat → Option Blk}
theorem opIndexAddrW_sound {t : TypeId} {x r : A} {j : Int} {p : Cn} (h : opIndexAddrW P L t x j = some (p, r)) (hp : p.h) : opIndexAddr P L t x j = some r := by
  unfold opIndexAddrW at h
  unfold opIndexAddr
  simp only [Option.bind_eq_some_iff] at h ⊢
  obtain ⟨e, he, s, hs, h⟩ := h
  refine ⟨e, he, s, hs, ?_⟩
  split at h
  · rename_i n π
    obtain ⟨b, hb, h⟩ := Option.bind_eq_some_iff.1 h
    refine Option.bind_eq_some_iff.2 ⟨b, hb, ?_⟩
    split at h
    · rename_i sz xs ex i π' x0
      split at h
      · rename_i N e' hu
        cases hs1 : Nat.beq s 1 with
        | false => rw [hs1] at h; cases h
        | true =>
        rw [hs1, cond_true] at h
        have hs1 : s = 1 := nbeq.1 hs1
        subst hs1
        cases h
        obtain ⟨h1, h2⟩ : (0 ≤ j ∧ j < N) ∧ M.arrLen (.pv (RC.get (.p sz xs) (.i i :: π'))) = some (N, 1) := hp
        have h3 : M.arrLen (Blk.get (.row (.p sz xs) ex) (.i i :: π')) = some (N, 1) := h2
        rw [hu, h3]
        simp only [Nat.beq_refl, Bool.and_self, if_true]
        rw [if_pos h1]
      · cases h
    · (split at h <;> first | (cases h; done) | (split at h <;> first | (cases h; done) | (simp only [Option.some.injEq, Prod.mk.injEq] at h; obtain ⟨rfl, rfl⟩ := h; simp_all [Cn.h])))
  all_goals first
    | (cases h; done)
    | (simp only [Option.bind_eq_some_iff] at h ⊢; obtain ⟨b, hb, h⟩ := h; refine ⟨b, hb, ?_⟩; (split at h <;> first | (cases h; done) | (split at h <;> first | (cases h; done) | (simp only [Option.some.injEq, Prod.mk.injEq] at h; obtain ⟨rfl, rfl⟩ := h; simp_all [Cn.h]))))
    | (split at h <;> first | (cases h; done) | (split at h <;> first | (cases h; done) | (simp only [Option.some.injEq, Prod.mk.injEq] at h; obtain ⟨rfl, rfl⟩ := h; simp_all [Cn.h]; done) | (simp only [Option.map_eq_some_iff, Prod.mk.injEq] at h; obtain ⟨ty, _, rfl, rfl⟩ := h; rename_i heq hc _; simp only [heq]; rw [if_pos hc, if_pos hp.1, TY.chk_eta hp.2])))

theorem opSliceW_sound {t : TypeId} {x r : A} {lo hi mx : Option Int} {p : Cn} (h : opSliceW P L t x lo hi mx = some (p, r)) (hp : p.h) : opSlice P L t x lo hi mx = some r := by
  unfold opSliceW at h
  unfold opSlice
  simp only [Option.bind_eq_some_iff] at h ⊢
  obtain ⟨e, he, s, hs, h⟩ := h
  refine ⟨e, he, s, hs, ?_⟩
  split at h <;> first
    | (cases h; done)
    | (simp only [Option.bind_eq_some_iff] at h ⊢; obtain ⟨b, hb, h⟩ := h; refine ⟨b, hb, ?_⟩; (split at h <;> first | (cases h; done) | (split at h <;> first | (cases h; done) | (simp only [Option.map_eq_some_iff, Prod.mk.injEq] at h; obtain ⟨⟨q, l, u, m⟩, h1, rfl, rfl⟩ := h; have h2 := boundsW_sound h1 hp; simp_all [Cn.h]))))
    | (split at h <;> first | (cases h; done) | (split at h <;> first | (cases h; done) | (simp only [Option.map_eq_some_iff, Prod.mk.injEq] at h; obtain ⟨⟨q, l, u, m⟩, h1, rfl, rfl⟩ := h; have h2 := boundsW_sound h1 hp; simp_all [Cn.h])))

theorem opS2AW_sound {t : TypeId} {x r : A} {p : Cn} (h : opS2AW P L t x = some (p, r)) (hp : p.h) : opS2A P L t x = some r := by
  unfold opS2AW at h
  unfold opS2A
  split at h
  · rename_i n e hu
    rw [hu]
    obtain ⟨s, hs, h⟩ := Option.bind_eq_some_iff.1 h
    refine Option.bind_eq_some_iff.2 ⟨s, hs, ?_⟩
    split at h <;> first
      | (cases h; done)
      | (obtain ⟨b, hb, h⟩ := Option.bind_eq_some_iff.1 h; refine Option.bind_eq_some_iff.2 ⟨b, hb, ?_⟩; (split at h <;> first | (cases h; done) | (split at h <;> first | (cases h; done) | (simp only [Option.some.injEq, Prod.mk.injEq] at h; obtain ⟨rfl, rfl⟩ := h; simp_all [Cn.h]))))
      | (split at h <;> first | (cases h; done) | (simp only [Option.some.injEq, Prod.mk.injEq] at h; obtain ⟨rfl, rfl⟩ := h; simp_all [Cn.h]))
  · cases h

/-- a row of zeros, or an append: what is asked is written down -/
def opMakeSliceW (P : Program) (L : Nat → Option Blk) (d : Nat) (t : TypeId) (l c : Int) (ex : Bool) : Option (Cn × Out) :=
  match P.underlying t with
  | some (.slice e) => (zeroRow P e l.toNat).bind fun rc => (opNew L d (.row rc ex) (.o d)).map fun o => (some (0 ≤ l ∧ l ≤ c ∧ c * (bytesT P e : Int) ≤ (room : Int) ∧ c ≤ 2 ^ 62), o)
  | _ => none
theorem opMakeSliceW_sound {d : Nat} {t : TypeId} {l c : Int} {ex : Bool} {o : Out} {p : Cn} (h : opMakeSliceW P L d t l c ex = some (p, o)) (hp : p.h) : opMakeSlice P L d t l c ex = some o := by
  unfold opMakeSliceW at h
  unfold opMakeSlice
  split at h
  · simp only [Option.bind_eq_some_iff, Option.map_eq_some_iff, Prod.mk.injEq] at h
    rename_i e hu
    obtain ⟨rc, h1, o', h2, rfl, rfl⟩ := h
    rw [hu]
    refine (if_pos hp).trans ?_
    exact Option.bind_eq_some_iff.2 ⟨rc, h1, h2⟩
  · cases h
end
end Go.Proofs.Ytgecpcajmhgboaa.M

/- Appending, what is asked written down. -/

namespace Go.Proofs.Ytgecpcajmhgboaa.M
open Go

def appendedW (P : Program) (L : Nat → Option Blk) (e : TypeId) (zeros : Bool) (y : A) : Option (Cn × RC) :=
  bif zeros then y.idx.bind fun n => (zeroRow P e n.toNat).map fun rc => (some (0 ≤ n ∧ n ≤ 2 ^ 62), rc)
  else (readSl L y).map fun rc => (none, rc)

def opAppendW (P : Program) (L : Nat → Option Blk) (d : Nat) (t t1 : TypeId) (nilc : Bool) (x y : A) : Option (Cn × Out) :=
  match P.underlying t with
  | some (.slice e) => (appKind P t1).bind fun zeros => (bif nilc then emptyRow P e else readSl L x).bind fun rx => (appendedW P L e zeros y).bind fun py => (rx.app py.2).bind fun r =>
    if szT P e == some r.sz && Nat.blt 0 r.sz && Nat.beq rx.sz r.sz && (zeroT P e).isSome then
      bif nilc then (opNew L d (.row r false) (.o d)).map fun o => (py.1.and (r.len * bytesT P e ≤ room ∧ r.len ≤ room), o) else
      match x, L d with
      | .o n, none => some (py.1.and (r.len * bytesT P e ≤ room ∧ r.len ≤ room), { val := .o d, upd := [(d, .row r false)], cut := [(n, none)] })
      | .vw _ _ _ len (some c), none => some (py.1.and ((r.len * bytesT P e ≤ room ∧ r.len ≤ room) ∧ len = c ∧ 0 < py.2.len), { val := .o d, upd := [(d, .row r false)] })
      | _, _ => none
    else none
  | _ => none

section
variable {P : Program} {L : Nat → Option Blk}
theorem appendedW_sound {e : TypeId} {z : Bool} {y : A} {p : Cn} {rc : RC} (h : appendedW P L e z y = some (p, rc)) (hp : p.h) : appended P L e z y = some rc := by
  unfold appendedW at h
  unfold appended
  cases z with
  | true =>
    simp only [cond_true, Option.bind_eq_some_iff, Option.map_eq_some_iff, Prod.mk.injEq] at h ⊢
    obtain ⟨n, hn, rc', h1, rfl, rfl⟩ := h
    exact ⟨n, hn, by rw [if_pos hp]; exact h1⟩
  | false =>
    simp only [cond_false, Option.map_eq_some_iff, Prod.mk.injEq] at h ⊢
    obtain ⟨rc', h1, _, rfl⟩ := h
    exact h1

theorem opAppendW_sound {d : Nat} {t t1 : TypeId} {nilc : Bool} {x y : A} {p : Cn} {o : Out} (h : opAppendW P L d t t1 nilc x y = some (p, o)) (hp : p.h) : opAppend P L d t t1 nilc x y = some o := by
  unfold opAppendW at h
  unfold opAppend
  split at h
  · rename_i e hu
    rw [hu]
    simp only [Option.bind_eq_some_iff] at h ⊢
    obtain ⟨zs, h1, rx, h2, ⟨pa, ry⟩, h3, r, h4, h⟩ := h
    split at h
    · rename_i hc
      cases nilc with
      | true =>
        simp only [cond_true, Option.map_eq_some_iff, Prod.mk.injEq] at h
        obtain ⟨o', h5, rfl, rfl⟩ := h
        exact ⟨zs, h1, rx, h2, ry, appendedW_sound h3 (Cn.and_h hp).1, r, h4, by rw [if_pos hc, if_pos (Cn.and_h hp).2]; exact h5⟩
      | false =>
        simp only [cond_false] at h
        split at h
        · rename_i n hd
          simp only [Option.some.injEq, Prod.mk.injEq] at h
          obtain ⟨rfl, rfl⟩ := h
          exact ⟨zs, h1, rx, h2, ry, appendedW_sound h3 (Cn.and_h hp).1, r, h4, by rw [if_pos hc, if_pos (Cn.and_h hp).2]; simp only [cond_false, hd]⟩
        · rename_i n π off len c hd
          simp only [Option.some.injEq, Prod.mk.injEq] at h
          obtain ⟨rfl, rfl⟩ := h
          exact ⟨zs, h1, rx, h2, ry, appendedW_sound h3 (Cn.and_h hp).1, r, h4, by rw [if_pos hc, if_pos (Cn.and_h hp).2.1]; simp only [cond_false, hd]; exact if_pos (Cn.and_h hp).2.2⟩
        · cases h
    · cases h
  · cases h
end
end Go.Proofs.Ytgecpcajmhgboaa.M

/- Loads and indexing with what is asked written down. -/

namespace Go.Proofs.Ytgecpcajmhgboaa.M
open Go

/-- does a path lead through elements that are data of many cells? -/
def PV.thru : PV → List PE → Bool
  | .st fs, .f j :: π => PV.thru (fs.getD j .nilp) π
  | .ar _ _, .i _ :: _ => true
  | _, _ => false
def A.thru : A → List PE → Bool
  | .pv x, π => x.thru π
  | .st fs, .f j :: π => A.thru (fs.getD j .bad) π
  | _, _ => false
def Blk.thru : Blk → List PE → Bool
  | .box c, π => c.thru π
  | .row (.p _ _) _, .i _ :: _ => true
  | _, _ => false

def opLoadW (P : Program) (L : Nat → Option Blk) (t : TypeId) (x : A) : Option (Cn × A) :=
  match x with
  | .p n π => (L n).bind fun b => bif b.thru π then (match b.get π with
      | .pv y => (tyOf P 8 t).bind fun ty => if fits P t (.pv (ty.eta y)) then some (some (ty.chk y = true), .pv (ty.eta y)) else none
      | _ => none)
    else if fits P t (b.get π) then some (none, b.get π) else none
  | x => (opLoad P L t x).map fun r => (none, r)
theorem opLoadW_sound {P : Program} {L : Nat → Option Blk} {t : TypeId} {x y : A} {p : Cn} (h : opLoadW P L t x = some (p, y)) (hp : p.h) : opLoad P L t x = some y := by
  unfold opLoadW at h
  split at h
  · rename_i n π
    simp only [Option.bind_eq_some_iff] at h
    obtain ⟨b, hb, h⟩ := h
    simp only [opLoad, hb, Option.bind_some]
    cases hth : b.thru π with
    | true =>
      rw [hth] at h
      simp only [cond_true] at h
      split at h
      · rename_i z hz
        simp only [Option.bind_eq_some_iff] at h
        obtain ⟨ty, _, h⟩ := h
        split at h
        · rename_i hf
          simp only [Option.some.injEq, Prod.mk.injEq] at h
          obtain ⟨rfl, rfl⟩ := h
          have hp : ty.eta z = z := TY.chk_eta hp
          rw [hp] at hf ⊢
          rw [hz, if_pos hf]
        · cases h
      · cases h
    | false =>
      rw [hth] at h
      simp only [cond_false] at h
      split at h
      · rename_i hf
        simp only [Option.some.injEq, Prod.mk.injEq] at h
        obtain ⟨rfl, rfl⟩ := h
        exact if_pos hf
      · cases h
  · simp only [Option.map_eq_some_iff, Prod.mk.injEq] at h
    obtain ⟨r, h1, _, rfl⟩ := h
    exact h1

def opIndexW (P : Program) (t : TypeId) (x : A) (j : Int) : Option (Cn × A) :=
  match x, P.underlying t with
  | .pv (.arr k n v), some (.array N e) => if Nat.beq n N && szT P e == some 1 && aggT P e == false && (P.underlying e).isSome then some (some (0 ≤ j ∧ j < N), .pv (.sc k (v.toList.getD j.toNat k.zero))) else none
  | .pv (.ar sz xs), some (.array N e) => (tyOf P 8 e).bind fun ty => if szT P e == some sz && (aggT P e == (ty.eta (xs.getD j.toNat .nilp)).isAgg && (P.underlying e).isSome) then
      some (some ((xs.length = N ∧ 0 ≤ j ∧ j < N) ∧ ty.chk (xs.getD j.toNat .nilp) = true), .pv (ty.eta (xs.getD j.toNat .nilp))) else none
  | _, _ => none
theorem opIndexW_sound {P : Program} {t : TypeId} {x y : A} {j : Int} {p : Cn} (h : opIndexW P t x j = some (p, y)) (hp : p.h) : opIndex P t x j = some y := by
  unfold opIndexW at h
  unfold opIndex
  split at h
  · rename_i k n v N e hu
    rw [hu]
    split at h
    · rename_i hc
      simp only [Option.some.injEq, Prod.mk.injEq] at h
      obtain ⟨rfl, rfl⟩ := h
      simp only
      rw [if_pos hc]; exact if_pos hp
    · cases h
  · rename_i sz xs N e hu
    rw [hu]
    simp only [Option.bind_eq_some_iff] at h
    obtain ⟨ty, _, h⟩ := h
    split at h
    · rename_i hc
      simp only [Option.some.injEq, Prod.mk.injEq] at h
      obtain ⟨rfl, rfl⟩ := h
      rw [Bool.and_eq_true] at hc
      have h2 := TY.chk_eta hp.2
      have h3 := hc.2
      rw [h2] at h3
      simp only
      rw [if_pos hc.1, if_pos hp.1, if_pos h3, h2]
    · cases h
  · cases h
end Go.Proofs.Ytgecpcajmhgboaa.M

/- One operation, what is asked written down. -/

namespace Go.Proofs.Ytgecpcajmhgboaa.M
open Go

def tru {α : Type} (x : Option α) : Option (Cn × α) := x.map fun r => (none, r)
def vals (x : Option (Cn × A)) : Option (Cn × Out) := x.map fun r => (r.1, { val := r.2 })

def opBinW (P : Program) (op : BinOp) (t : TypeId) (x y : A) : Option (Cn × A) :=
  match op, x, y with
  | .quo, .pv a, .pv b => (binW .quo a b).map fun q => (q.1, .pv q.2)
  | .rem, .pv a, .pv b => (binW .rem a b).map fun q => (q.1, .pv q.2)
  | .shl, .pv a, .pv b => (binW .shl a b).map fun q => (q.1, .pv q.2)
  | .shr, .pv a, .pv b => (binW .shr a b).map fun q => (q.1, .pv q.2)
  | op, x, y => tru (opBin P op t x y)

/-- a store: into a row of data what is not seen is asked -/
def rowSet (sz : Nat) (xs : List PV) (ex : Bool) (j : Nat) (π : List PE) (v : PV) : Cn × Blk :=
  match π with
  | [] => (some ((xs.getD j .nilp).size = v.size), .row (.p sz (xs.set j v)) ex)
  | q :: π => (some ((PV.get (xs.getD j .nilp) (q :: π)).size = v.size ∧ (PV.set (xs.getD j .nilp) (q :: π) v).isSome = true), .row (.p sz (xs.set j ((PV.set (xs.getD j .nilp) (q :: π) v).getD .nilp))) ex)
def opStoreW (P : Program) (L : Nat → Option Blk) (t : TypeId) (a y : A) : Option (Cn × Out) :=
  match a with
  | .p n π => (L n).bind fun b => match b, π, y with
    | .row (.p sz xs) ex, .i j :: π, .pv v => bif fits P t (.pv v) then some ((rowSet sz xs ex j π v).1, { val := .und, upd := [(n, (rowSet sz xs ex j π v).2)], cut := [(n, some (.i j :: π))] }) else none
    | _, π, y => tru (opStore P L t (.p n π) y)
  | a => tru (opStore P L t a y)

/-- a slice of an array that is not seen -/
def opSliceTW (P : Program) (L : Nat → Option Blk) (t : TypeId) (x : A) (lo hi mx : Option Int) : Option (Cn × A) :=
  match x with
  | .p n π => (L n).bind fun b => bif b.thru π then (match P.underlying t, b.get π with
      | some (.array N e), .pv y => (ekT P e).bind fun k => if szT P e == some 1 then (boundsW N (some N) lo hi mx).map fun r => (some ((TY.arr k N).chk y = true ∧ r.1.h), .vw n π r.2.1 (r.2.2.1 - r.2.1) (r.2.2.2.map (· - r.2.1))) else none
      | _, _ => none)
    else opSliceW P L t (.p n π) lo hi mx
  | x => opSliceW P L t x lo hi mx
/-- the place of a field of a struct that is not seen -/
def opFieldAddrTW (P : Program) (L : Nat → Option Blk) (t : TypeId) (x : A) (f : Nat) : Option (Cn × A) :=
  match x with
  | .p n π => (L n).bind fun b => bif b.thru π then (match P.underlying t, b.get π with
      | some (.struct fs), .pv y => match fs[f]? with
        | some fd => (tyOf P 8 t).bind fun ty => match ty.eta y with
          | .st xs => if Nat.blt f xs.length && Nat.beq fd.offset (PV.sizeL (xs.take f)) && (szT P fd.type).any (Nat.blt 0) then some (some (ty.chk y = true), .p n (π ++ [.f f])) else none
          | _ => none
        | none => none
      | _, _ => none)
    else tru (opFieldAddr P L t (.p n π) f)
  | x => tru (opFieldAddr P L t x f)
/-- elements copied into an array that is not seen -/
def opCopyW (P : Program) (L : Nat → Option Blk) (t : TypeId) (x y : A) : Option (Cn × Out) :=
  match x with
  | .vw n [.i j] off len (some c) => (L n).bind fun b => match b with
    | .row (.p sz xs) ex => (match P.underlying t with
      | some (.slice e) => (ekT P e).bind fun k => if szT P e == some 1 then (readSl L y).bind fun ry => ((RC.s k (PV.vecv k (off + c) (xs.getD j .nilp)).toList).over off (min ry.len len) ry).map fun r =>
          (some ((TY.arr k (off + c)).chk (xs.getD j .nilp) = true), { val := intA (min ry.len len), upd := [(n, .row (.p sz (xs.set j (r.arr 0 (off + c)))) ex)], cut := [(n, some [.i j])] }) else none
      | _ => none)
    | _ => tru (opCopy P L t (.vw n [.i j] off len (some c)) y)
  | x => tru (opCopy P L t x y)

def opOutW (P : Program) (L : Nat → Option Blk) (d : Nat) (ρ : Operand → A) (o : Oper) : Option (Cn × Out) :=
  match o.op with
  | .store t x y => opStoreW P L t (ρ x) (ρ y)
  | .load t x => vals (opLoadW P L t (ρ x))
  | .binOp op t x y _ => vals (opBinW P op t (ρ x) (ρ y))
  | .sliceToArrayPointer t x => vals (opS2AW P L t (ρ x))
  | .makeSlice t l c => (ρ l).idx.bind fun li => (ρ c).idx.bind fun ci => opMakeSliceW P L d t li ci (sameOp l c)
  | .slice t x lo hi mx => (idxO ρ lo).bind fun l => (idxO ρ hi).bind fun h => (idxO ρ mx).bind fun m => vals (opSliceTW P L t (ρ x) l h m)
  | .indexAddr t x i => (ρ i).idx.bind fun j => vals (opIndexAddrW P L t (ρ x) j)
  | .index t x i => (ρ i).idx.bind fun j => vals (opIndexW P t (ρ x) j)
  | .fieldAddr t x f => vals (opFieldAddrTW P L t (ρ x) f)
  | .call c => match c.callee, c.args.toList, c.argTypes.toList with
    | .builtin .append, [x, y], [t, t1] => opAppendW P L d t t1 (isNilSl x) (ρ x) (ρ y)
    | .builtin .copy, [x, y], [t, _] => opCopyW P L t (ρ x) (ρ y)
    | _, _, _ => tru (opOut P L d ρ o)
  | _ => tru (opOut P L d ρ o)

theorem tru_sound {α : Type} {x : Option α} {p : Cn} {r : α} (h : tru x = some (p, r)) : x = some r := by
  simp only [tru, Option.map_eq_some_iff, Prod.mk.injEq] at h
  obtain ⟨_, h1, _, rfl⟩ := h
  exact h1
theorem vals_sound {x : Option (Cn × A)} {y : Option A} {p : Cn} {o : Out} (h : vals x = some (p, o)) (hp : p.h) (hs : ∀ q r, x = some (q, r) → q.h → y = some r) : (y.map fun r => ({ val := r } : Out)) = some o := by
  simp only [vals, Option.map_eq_some_iff, Prod.mk.injEq] at h
  obtain ⟨⟨q, r⟩, h1, rfl, rfl⟩ := h
  rw [hs q r h1 hp]; rfl
theorem opBinW_sound {P : Program} {op : BinOp} {t : TypeId} {x y r : A} {p : Cn} (h : opBinW P op t x y = some (p, r)) (hp : p.h) : opBin P op t x y = some r := by
  unfold opBinW at h
  split at h <;> first
    | (simp only [Option.map_eq_some_iff, Prod.mk.injEq] at h; obtain ⟨⟨q, s⟩, h1, rfl, rfl⟩ := h; simp only [opBin, binW_sound h1 hp]; rfl)
    | exact tru_sound h

theorem rowSet_sound {sz : Nat} {xs : List PV} {ex : Bool} {j : Nat} {π : List PE} {v : PV} (h : (rowSet sz xs ex j π v).1.h) :
    (Blk.get (.row (.p sz xs) ex) (.i j :: π)).size = (A.pv v).size ∧ Blk.set (.row (.p sz xs) ex) (.i j :: π) (.pv v) = some (rowSet sz xs ex j π v).2 := by
  cases π with
  | nil =>
    have h : (xs.getD j .nilp).size = v.size := h
    refine ⟨?_, ?_⟩
    · show (PV.get (xs.getD j .nilp) []).size = v.size
      rw [PV.get_nil]; exact h
    · show ((PV.set (xs.getD j .nilp) [] v).map fun z => RC.p sz (xs.set j z)).map (Blk.row · ex) = _
      have : PV.set (xs.getD j .nilp) [] v = some v := by cases xs.getD j .nilp <;> rfl
      rw [this]; rfl
  | cons q π =>
    obtain ⟨h1, h2⟩ : (PV.get (xs.getD j .nilp) (q :: π)).size = v.size ∧ (PV.set (xs.getD j .nilp) (q :: π) v).isSome = true := h
    refine ⟨h1, ?_⟩
    show ((PV.set (xs.getD j .nilp) (q :: π) v).map fun z => RC.p sz (xs.set j z)).map (Blk.row · ex) = _
    obtain ⟨z, hz⟩ := Option.isSome_iff_exists.1 h2
    simp only [rowSet, hz, Option.map_some, Option.getD_some]
theorem opStoreW_sound {P : Program} {L : Nat → Option Blk} {t : TypeId} {a y : A} {p : Cn} {out : Out} (h : opStoreW P L t a y = some (p, out)) (hp : p.h) : opStore P L t a y = some out := by
  unfold opStoreW at h
  split at h
  · rename_i n π
    obtain ⟨b, hb, h1⟩ := Option.bind_eq_some_iff.1 h
    split at h1
    · rename_i sz xs ex j π v
      cases hf : fits P t (.pv v) with
      | false => rw [hf] at h1; cases h1
      | true =>
        rw [hf] at h1
        cases h1
        obtain ⟨q1, q2⟩ := rowSet_sound hp
        simp only [opStore, hb, Option.bind_some]
        rw [q2, hf, q1]
        simp [A.storable, A.isPlain]
    · exact tru_sound h1
  · exact tru_sound h

theorem arr_of_chk {k : EK} {n : Nat} {x : PV} (h : (TY.arr k n).chk x = true) : x = .arr k n (x.vecv k n) := (TY.chk_eta h).symm
theorem opSliceTW_sound {P : Program} {L : Nat → Option Blk} {t : TypeId} {x r : A} {lo hi mx : Option Int} {p : Cn} (h : opSliceTW P L t x lo hi mx = some (p, r)) (hp : p.h) : opSlice P L t x lo hi mx = some r := by
  unfold opSliceTW at h
  split at h
  · rename_i n π
    obtain ⟨b, hb, h⟩ := Option.bind_eq_some_iff.1 h
    cases hth : b.thru π with
    | false =>
      rw [hth] at h
      exact opSliceW_sound h hp
    | true =>
      rw [hth] at h
      simp only [cond_true] at h
      split at h
      · rename_i N e y hu hy
        obtain ⟨k, hk, h⟩ := Option.bind_eq_some_iff.1 h
        split at h
        · rename_i hs
          obtain ⟨⟨p1, l1, h1, m1⟩, hb1, h2⟩ := Option.map_eq_some_iff.1 h
          cases h2
          have hp : (TY.arr k N).chk y = true ∧ p1.h := hp
          have hs : szT P e = some 1 := by simpa using hs
          have hbd := boundsW_sound hb1 hp.2
          have hy2 := arr_of_chk hp.1
          unfold opSlice
          have he : arrElem P t = some e := by unfold arrElem; rw [hu]
          rw [he, Option.bind_some, hs, Option.bind_some]
          simp only [hb, Option.bind_some, hu, hy]
          rw [hy2]
          simp only [arrLen, show Nat.beq N N = true from Nat.beq_refl N, show Nat.beq 1 1 = true from rfl, Bool.and_self, if_true, hbd, Option.map_some]
        · cases h
      · cases h
  · exact opSliceW_sound h hp
theorem opFieldAddrTW_sound {P : Program} {L : Nat → Option Blk} {t : TypeId} {x r : A} {f : Nat} {p : Cn} (h : opFieldAddrTW P L t x f = some (p, r)) (hp : p.h) : opFieldAddr P L t x f = some r := by
  unfold opFieldAddrTW at h
  split at h
  · rename_i n π
    obtain ⟨b, hb, h⟩ := Option.bind_eq_some_iff.1 h
    cases hth : b.thru π with
    | false =>
      rw [hth] at h
      exact tru_sound h
    | true =>
      rw [hth] at h
      simp only [cond_true] at h
      split at h
      · rename_i fs y hu hy
        split at h
        · rename_i fd hfd
          obtain ⟨ty, _, h⟩ := Option.bind_eq_some_iff.1 h
          split at h
          · rename_i xs hx
            split at h
            · rename_i hc
              cases h
              have hp : ty.chk y = true := hp
              rw [TY.chk_eta hp] at hx
              subst hx
              unfold opFieldAddr
              rw [hu]
              simp only [hfd, hb, Option.bind_some, hy, hc, if_true]
            · cases h
          · cases h
        · cases h
      · cases h
  · exact tru_sound h
theorem opCopyW_sound {P : Program} {L : Nat → Option Blk} {t : TypeId} {x y : A} {p : Cn} {out : Out} (h : opCopyW P L t x y = some (p, out)) (hp : p.h) : opCopy P L t x y = some out := by
  unfold opCopyW at h
  split at h
  · rename_i n j off len c
    obtain ⟨b, hb, h⟩ := Option.bind_eq_some_iff.1 h
    split at h
    · rename_i sz xs ex
      split at h
      · rename_i e hu
        obtain ⟨k, hk, h⟩ := Option.bind_eq_some_iff.1 h
        split at h
        · rename_i hs
          obtain ⟨ry, hry, h⟩ := Option.bind_eq_some_iff.1 h
          obtain ⟨r, hr, h2⟩ := Option.map_eq_some_iff.1 h
          cases h2
          have hp : (TY.arr k (off + c)).chk (xs.getD j .nilp) = true := hp
          have hy2 := arr_of_chk hp
          have hg : Blk.get (.row (.p sz xs) ex) [.i j] = .pv (.arr k (off + c) ((xs.getD j .nilp).vecv k (off + c))) := by
            show A.pv (PV.get (xs.getD j .nilp) []) = _
            rw [PV.get_nil, ← hy2]
          have hset : Blk.set (.row (.p sz xs) ex) [.i j] (.pv (r.arr 0 (off + c))) = some (.row (.p sz (xs.set j (r.arr 0 (off + c)))) ex) := by
            show ((PV.set (xs.getD j .nilp) [] (r.arr 0 (off + c))).map fun z => RC.p sz (xs.set j z)).map (Blk.row · ex) = _
            have : PV.set (xs.getD j .nilp) [] (r.arr 0 (off + c)) = some (r.arr 0 (off + c)) := by cases xs.getD j .nilp <;> rfl
            rw [this]; rfl
          unfold opCopy
          rw [hu]
          simp only [hs, if_true, hry, Option.bind_some, hb]
          have he : Blk.elems (.row (.p sz xs) ex) [.i j] = some (.s k ((xs.getD j .nilp).vecv k (off + c)).toList) := by
            show (Blk.get (.row (.p sz xs) ex) [.i j]).elems = _
            rw [hg]; rfl
          have ha : Blk.arrLen (.row (.p sz xs) ex) [.i j] = some (off + c, 1) := by
            show M.arrLen (Blk.get (.row (.p sz xs) ex) [.i j]) = _
            rw [hg]; rfl
          rw [he, Option.bind_some, hr, Option.bind_some, ha, Option.bind_some, hset]
          rfl
        · cases h
      · cases h
    · exact tru_sound h
  · exact tru_sound h
theorem opOutW_sound {P : Program} {L : Nat → Option Blk} {d : Nat} {ρ : Operand → A} {o : Oper} {p : Cn} {out : Out} (h : opOutW P L d ρ o = some (p, out)) (hp : p.h) : opOut P L d ρ o = some out := by
  unfold opOutW at h
  split at h
  case h_11 => exact tru_sound h
  case h_10 c hop =>
    split at h
    · rename_i x y t t1 h1 h2 h3
      unfold opOut
      rw [hop]
      simp only [h1, h2, h3, opBuiltin]
      exact opAppendW_sound h hp
    · rename_i x y t t1 h1 h2 h3
      unfold opOut
      rw [hop]
      simp only [h1, h2, h3, opBuiltin]
      exact opCopyW_sound h hp
    · exact tru_sound h
  all_goals (unfold opOut; rename_i hop; rw [hop]; simp only)
  · exact opStoreW_sound h hp
  · exact vals_sound h hp fun q r h1 h2 => opLoadW_sound h1 h2
  · exact vals_sound h hp fun q r h1 h2 => opBinW_sound h1 h2
  · exact vals_sound h hp fun q r h1 h2 => opS2AW_sound h1 h2
  · simp only [Option.bind_eq_some_iff] at h ⊢
    obtain ⟨li, h1, ci, h2, h3⟩ := h
    exact ⟨li, h1, ci, h2, opMakeSliceW_sound h3 hp⟩
  · simp only [Option.bind_eq_some_iff] at h ⊢
    obtain ⟨l, h1, u, h2, m, h3, h4⟩ := h
    exact ⟨l, h1, u, h2, m, h3, vals_sound h4 hp fun q r g1 g2 => opSliceTW_sound g1 g2⟩
  · simp only [Option.bind_eq_some_iff] at h ⊢
    obtain ⟨j, h1, h2⟩ := h
    exact ⟨j, h1, vals_sound h2 hp fun q r g1 g2 => opIndexAddrW_sound g1 g2⟩
  · simp only [Option.bind_eq_some_iff] at h ⊢
    obtain ⟨j, h1, h2⟩ := h
    exact ⟨j, h1, vals_sound h2 hp fun q r g1 g2 => opIndexW_sound g1 g2⟩
  · exact vals_sound h hp fun q r h1 h2 => opFieldAddrTW_sound h1 h2
end Go.Proofs.Ytgecpcajmhgboaa.M

/- Regions reckoned as what is asked of them: conditions at the top, what comes behind handed on. -/

namespace Go.Proofs.Ytgecpcajmhgboaa.M
open Go

/-- what a walk knows besides: as Cfg, but what a function asks is written down -/
structure CfgW where
  P : Program
  G : Nat → Option PV
  cs : Nat → List A → List (Nat × Blk) → Option (Cn × CallOut)
  sig : Nat → List Bool
  nt : Nat
  np : Nat := 0
  nf : Bool := false
  /-- what a function that is ranged over yields: of what it has caught; the names that it may write -/
  it : Nat → List A → (Nat → Option Blk) → Option (List Nat × List (List PV)) := fun _ _ _ => none
  mv : List Nat := []

open Classical in
noncomputable def CfgW.cs' (C : CfgW) (f : Nat) (ys : List A) (mem : List (Nat × Blk)) : Option CallOut := (C.cs f ys mem).bind fun r => if r.1.h then some r.2 else none
noncomputable def CfgW.cfg (C : CfgW) : Cfg := { P := C.P, G := C.G, cs := C.cs', sig := C.sig, nt := C.nt, np := C.np, nf := C.nf, mv := C.mv }

def Cn.K : Cn → Prop → Prop
  | none, k => k
  | some p, k => p ∧ k
theorem Cn.K_h {c : Cn} {k : Prop} (h : c.K k) : c.h ∧ k := by cases c with | none => exact ⟨trivial, h⟩ | some p => exact h
theorem Cn.K_mk {c : Cn} {k : Prop} (h : c.h) (hk : k) : c.K k := by cases c with | none => exact hk | some p => exact ⟨h, hk⟩

def opCallMW (L : Nat → Option Blk) (d : Nat) (ms : List Bool) (cs : List A → List (Nat × Blk) → Option (Cn × CallOut)) (xs : List A) : Option (Cn × Out) :=
  if (handOK L (handN L ms xs) && handOK L (readN ms xs) && (readN ms xs).all fun n => !memN n (handN L ms xs)) = true then
    (mixA (handN L ms xs) (readN ms xs) L ms xs).bind fun ys => (cs ys (canonF (renF (handN L ms xs)) L (handN L ms xs))).bind fun r => (opBack L d (handN L ms xs) ms xs r.2).map fun x => (r.1, x)
  else none

def opSIW (P : Program) (ρ : Operand → A) (o : Oper) : Option (Cn × Out) := match o.op with
  | .index t (.const (.string s)) i => bif isStr P t then (ρ i).idx.bind fun j => some (some (0 ≤ j ∧ j < (s.data.toList.length : Int)), { val := .pv (.sc .u8 (s.data.toList.getD j.toNat 0)) }) else none
  | _ => none
theorem opSIW_sound {P : Program} {ρ : Operand → A} {o : Oper} {p : Cn} {out : Out} (h : opSIW P ρ o = some (p, out)) (hp : p.h) : opSI P ρ o = some out := by
  unfold opSIW at h
  unfold opSI
  split at h
  · rename_i t s i hop
    cases ht : isStr P t with
    | false => rw [ht] at h; cases h
    | true =>
      rw [ht, cond_true] at h
      rw [hop]
      simp only
      rw [if_pos ht]
      obtain ⟨j, hj, h⟩ := Option.bind_eq_some_iff.1 h
      cases h
      rw [hj, Option.bind_some]
      exact if_pos hp
  · cases h
def opOutFW (P : Program) (L : Nat → Option Blk) (d : Nat) (ρ : Operand → A) (o : Oper) : Option (Cn × Out) :=
  bif siB o then opSIW P ρ o else
  bif nilN L d o then opOutW P L (d + 30000) ρ o else
  match fzN L ρ o.op with
  | [] => opOutW P L d ρ o
  | n :: r => (opOutW P (cutL (n :: r) L) d (fun x => fzA L (n :: r) (ρ x)) o).bind fun q =>
    if fzOK L (n :: r) q.2 = true then some (q.1, { val := q.2.val, upd := q.2.upd, cut := fzC (n :: r) ++ q.2.cut }) else none
theorem opOutFW_sound {P : Program} {L : Nat → Option Blk} {d : Nat} {ρ : Operand → A} {o : Oper} {p : Cn} {out : Out} (h : opOutFW P L d ρ o = some (p, out)) (hp : p.h) : opOutF P L d ρ o = some out := by
  unfold opOutFW at h
  unfold opOutF
  cases hsi : siB o with
  | true => rw [hsi] at h; exact opSIW_sound h hp
  | false =>
  rw [hsi, cond_false] at h
  rw [cond_false]
  cases hnl : nilN L d o with
  | true => rw [hnl] at h; exact opOutW_sound h hp
  | false =>
  rw [hnl, cond_false] at h
  rw [cond_false]
  split at h
  · rename_i e
    rw [e]
    exact opOutW_sound h hp
  · rename_i n r e
    rw [e]
    simp only
    generalize n :: r = ns at h
    obtain ⟨⟨c, o1⟩, h1, h⟩ := Option.bind_eq_some_iff.1 h
    simp only at h
    split at h
    · rename_i hok
      cases h
      rw [opOutW_sound h1 hp, Option.bind_some, if_pos hok]
    · cases h

def opCallSW (L : Nat → Option Blk) (d : Nat) (cs : List A → Option (Cn × CallOut)) (xs : List A) : Option (Cn × Out) := (passAs L xs).bind fun ys => (cs ys).bind fun r => (opCall L d r.2 xs).map fun x => (r.1, x)
def opCallZW (L : Nat → Option Blk) (d : Nat) (cs : List A → Option (Cn × CallOut)) (xs : List A) : Option (Cn × Out) :=
  (opCallSW (cutL (ownRowsL L xs) L) d cs (fzL L (ownRowsL L xs) xs)).bind fun q =>
    if fzOK L (ownRowsL L xs) q.2 = true then some (q.1, { val := q.2.val, upd := q.2.upd, cut := fzC (ownRowsL L xs) ++ q.2.cut }) else none
def opExtW : Nat → List A → Option (Cn × Out)
  | 1, [.pv (.sc .u64 x), .pv (.sc .u64 y), .pv (.sc .u64 c)] => some (some ((c : UInt64).toNat ≤ 1), { val := .tup [.pv (.sc .u64 (x + y + c : UInt64)), .pv (.sc .u64 (addHi x y c))] })
  | 2, [.pv (.sc .u64 x), .pv (.sc .u64 y), .pv (.sc .u64 c)] => some (some ((c : UInt64).toNat ≤ 1), { val := .tup [.pv (.sc .u64 (x - y - c : UInt64)), .pv (.sc .u64 (subHi x y c))] })
  | _, _ => none
theorem opExtW_sound {k : Nat} {xs : List A} {p : Cn} {out : Out} (h : opExtW k xs = some (p, out)) (hp : p.h) : opExt k xs = some out := by
  unfold opExtW at h
  unfold opExt
  split at h
  · cases h; exact if_pos hp
  · cases h; exact if_pos hp
  · cases h
def opAnyW0 (C : CfgW) (L : Nat → Option Blk) (d : Nat) (ρ : Operand → A) (o : Oper) : Option (Cn × Out) :=
  match o.op with
  | .call c => match c.callee with
    | .builtin _ => opOutFW C.P L d ρ o
    | _ => (calleeOf ρ c).bind fun g => bif exB C.P g then opExtW (extK C.P g) (callArgs C.P ρ c) else bif (C.sig g).isEmpty then opCallSW L d (fun ys => C.cs g ys []) (callArgs C.P ρ c)
      else bif anyT (C.sig g) then opCallMW L d (C.sig g) (C.cs g) (callArgs C.P ρ c)
      else opCallZW L d (fun ys => C.cs g ys []) (callArgs C.P ρ c)
  | _ => opOutFW C.P L d ρ o
/-- maps: what is not known of their keys and elements is written down -/
def opMapW (P : Program) (L : Nat → Option Blk) (d : Nat) (ρ : Operand → A) (o : Oper) : Option (Cn × Out) := match o.op with
  | .lookup t x i ok => (mapT P t).bind fun ke => (mapAt L (ρ x)).bind fun nk => (zeroT P ke.2).bind fun z => (tyOf P 8 ke.2).bind fun ty => (pvOf (ρ i)).bind fun q =>
      bif scOf ke.1 (ρ i) then some (some (allSc ke.1 nk.2 = true ∧ (nk.2.all fun p => p.2.isAgg == z.isAgg) = true ∧ ty.chk ((mget nk.2 q).getD z) = true),
        { val := bif ok then .tup [.pv (ty.eta ((mget nk.2 q).getD z)), .pv (.sc .b (mget nk.2 q).isSome)] else .pv (ty.eta ((mget nk.2 q).getD z)) }) else none
  | .mapUpdate t m k v => (mapT P t).bind fun ke => (mapAt L (ρ m)).bind fun nk => (pvOf (ρ k)).bind fun q => (pvOf (ρ v)).bind fun y =>
      bif scOf ke.1 (ρ k) then some (some (allSc ke.1 nk.2 = true), { val := .und, upd := [(nk.1, .map (mset nk.2 q y))] }) else none
  | _ => (opMap P L d ρ o).map fun x => (none, x)
theorem opMapW_sound {P : Program} {L : Nat → Option Blk} {d : Nat} {ρ : Operand → A} {o : Oper} {p : Cn} {out : Out} (h : opMapW P L d ρ o = some (p, out)) (hp : p.h) : opMap P L d ρ o = some out := by
  unfold opMapW at h
  split at h
  · rename_i t x i ok hop
    obtain ⟨ke, h1, h⟩ := Option.bind_eq_some_iff.1 h
    obtain ⟨nk, h2, h⟩ := Option.bind_eq_some_iff.1 h
    obtain ⟨z, h3, h⟩ := Option.bind_eq_some_iff.1 h
    obtain ⟨ty, h4, h⟩ := Option.bind_eq_some_iff.1 h
    obtain ⟨q, h5, h⟩ := Option.bind_eq_some_iff.1 h
    cases hs : scOf ke.1 (ρ i) with
    | false => rw [hs] at h; cases h
    | true =>
      rw [hs, cond_true] at h
      cases h
      obtain ⟨c1, c2, c3⟩ := hp
      unfold opMap
      rw [hop]
      simp only [opLookup, h1, h2, h3, h5, Option.bind_some, hs, c1, c2, Bool.and_self, if_true, Option.map_some, TY.chk_eta c3]
  · rename_i t m k v hop
    obtain ⟨ke, h1, h⟩ := Option.bind_eq_some_iff.1 h
    obtain ⟨nk, h2, h⟩ := Option.bind_eq_some_iff.1 h
    obtain ⟨q, h3, h⟩ := Option.bind_eq_some_iff.1 h
    obtain ⟨y, h4, h⟩ := Option.bind_eq_some_iff.1 h
    cases hs : scOf ke.1 (ρ k) with
    | false => rw [hs] at h; cases h
    | true =>
      rw [hs, cond_true] at h
      cases h
      have c1 : allSc ke.1 nk.2 = true := hp
      unfold opMap
      rw [hop]
      simp only [opMapUpdate, h1, h2, h3, h4, Option.bind_some, hs, c1, Bool.and_self, if_true]
  · obtain ⟨x, hx, e⟩ := Option.map_eq_some_iff.1 h
    cases e
    exact hx
def opAnyW (C : CfgW) (L : Nat → Option Blk) (d : Nat) (ρ : Operand → A) (o : Oper) : Option (Cn × Out) :=
  bif memN d C.mv then (opMv C.P L d ρ o).map fun x => (none, x) else bif mapB o then opMapW C.P L d ρ o else opAnyW0 C L d ρ o

theorem opCallSW_sound {L : Nat → Option Blk} {d : Nat} {cs : List A → Option (Cn × CallOut)} {cs' : List A → Option CallOut} {xs : List A} {p : Cn} {out : Out} (hcs : ∀ ys r, cs ys = some r → r.1.h → cs' ys = some r.2) (h : opCallSW L d cs xs = some (p, out)) (hp : p.h) : opCallS L d cs' xs = some out := by
  unfold opCallSW at h
  unfold opCallS
  simp only [Option.bind_eq_some_iff, Option.map_eq_some_iff, Prod.mk.injEq] at h ⊢
  obtain ⟨ys, h2, r, h3, x, h4, rfl, rfl⟩ := h
  exact ⟨ys, h2, r.2, hcs _ _ h3 hp, h4⟩
theorem opCallZW_sound {L : Nat → Option Blk} {d : Nat} {cs : List A → Option (Cn × CallOut)} {cs' : List A → Option CallOut} {xs : List A} {p : Cn} {out : Out} (hcs : ∀ ys r, cs ys = some r → r.1.h → cs' ys = some r.2) (h : opCallZW L d cs xs = some (p, out)) (hp : p.h) : opCallZ L d cs' xs = some out := by
  unfold opCallZW at h
  unfold opCallZ
  obtain ⟨⟨c, o1⟩, h1, h⟩ := Option.bind_eq_some_iff.1 h
  simp only at h
  split at h
  · rename_i hok
    cases h
    rw [opCallSW_sound hcs h1 hp, Option.bind_some, if_pos hok]
  · cases h

theorem opAnyW0_sound {C : CfgW} {L : Nat → Option Blk} {d : Nat} {ρ : Operand → A} {o : Oper} {p : Cn} {out : Out} (h : opAnyW0 C L d ρ o = some (p, out)) (hp : p.h) : opAny0 C.cfg L d ρ o = some out := by
  have plain : opOutFW C.P L d ρ o = some (p, out) → opOutF C.cfg.P L d ρ o = some out := fun h => opOutFW_sound h hp
  have cs1 : ∀ {g ys mem} {r : Cn × CallOut}, C.cs g ys mem = some r → r.1.h → C.cfg.cs g ys mem = some r.2 := by
    intro g ys mem r hr hrp
    show C.cs' g ys mem = _
    unfold CfgW.cs'
    rw [hr]
    exact if_pos hrp
  unfold opAnyW0 at h
  unfold opAny0
  split at h
  · rename_i c hc
    have call : ((calleeOf ρ c).bind fun g => bif exB C.P g then opExtW (extK C.P g) (callArgs C.P ρ c) else bif (C.sig g).isEmpty then opCallSW L d (fun ys => C.cs g ys []) (callArgs C.P ρ c)
      else bif anyT (C.sig g) then opCallMW L d (C.sig g) (C.cs g) (callArgs C.P ρ c)
      else opCallZW L d (fun ys => C.cs g ys []) (callArgs C.P ρ c)) = some (p, out) →
        ((calleeOf ρ c).bind fun g => bif exB C.cfg.P g then opExt (extK C.cfg.P g) (callArgs C.P ρ c) else bif (C.cfg.sig g).isEmpty then opCallS L d (fun ys => C.cfg.cs g ys []) (callArgs C.P ρ c)
      else bif anyT (C.cfg.sig g) then opCallM L d (C.cfg.sig g) (C.cfg.cs g) (callArgs C.P ρ c)
      else opCallZ L d (fun ys => C.cfg.cs g ys []) (callArgs C.P ρ c)) = some out := by
      intro h
      obtain ⟨g, h1, h⟩ := Option.bind_eq_some_iff.1 h
      refine Option.bind_eq_some_iff.2 ⟨g, h1, ?_⟩
      show (bif exB C.P g then opExt (extK C.P g) _ else bif (C.sig g).isEmpty then _ else bif anyT (C.sig g) then opCallM L d (C.sig g) (C.cfg.cs g) _ else _) = _
      cases hex : exB C.P g with
      | true => rw [hex] at h; exact opExtW_sound h hp
      | false =>
      rw [hex, cond_false] at h
      rw [cond_false]
      cases hsig : (C.sig g).isEmpty with
      | true =>
        rw [hsig] at h
        exact opCallSW_sound (fun ys r h1 h2 => cs1 h1 h2) h hp
      | false =>
        rw [hsig] at h
        simp only [cond_false] at h ⊢
        cases ha : anyT (C.sig g) with
        | false =>
          rw [ha] at h
          exact opCallZW_sound (fun ys r h1 h2 => cs1 h1 h2) h hp
        | true =>
        rw [ha] at h
        simp only [cond_true] at h ⊢
        unfold opCallMW at h
        unfold opCallM
        split at h
        · rename_i hc
          rw [if_pos hc]
          simp only [Option.bind_eq_some_iff, Option.map_eq_some_iff, Prod.mk.injEq] at h ⊢
          obtain ⟨ys, h2, r, h3, x, h4, rfl, rfl⟩ := h
          exact ⟨ys, h2, r.2, cs1 h3 hp, h4⟩
        · cases h
    rw [hc]
    simp only
    cases hcal : c.callee with
    | builtin b => rw [hcal] at h; exact plain h
    | value f => rw [hcal] at h; exact call h
    | invoke r m => rw [hcal] at h; exact call h
  · rename_i hne
    split
    · rename_i c hc; exact (hne c hc).elim
    · exact plain h

theorem opAnyW_sound {C : CfgW} {L : Nat → Option Blk} {d : Nat} {ρ : Operand → A} {o : Oper} {p : Cn} {out : Out} (h : opAnyW C L d ρ o = some (p, out)) (hp : p.h) : opAny C.cfg L d ρ o = some out := by
  unfold opAnyW at h
  unfold opAny
  show (bif memN d C.mv then opMv C.P L d ρ o else bif mapB o then opMap C.P L d ρ o else opAny0 C.cfg L d ρ o) = some out
  cases hmv : memN d C.mv with
  | true =>
    rw [hmv, cond_true] at h
    rw [cond_true]
    obtain ⟨x, hx, e⟩ := Option.map_eq_some_iff.1 h
    cases e
    exact hx
  | false =>
    rw [hmv, cond_false] at h
    rw [cond_false]
    cases hmp : mapB o with
    | true => rw [hmp, cond_true] at h; exact opMapW_sound h hp
    | false => rw [hmp, cond_false] at h; exact opAnyW0_sound h hp
def condP (b : Bool) (X Y : Prop) : Prop :=
  match b with
  | true => X
  | false => Y

def optP {α : Type} (x : Option α) (K : α → Prop) : Prop :=
  match x with
  | some a => K a
  | none => False
theorem optP_iff {α : Type} {x : Option α} {K : α → Prop} : optP x K ↔ ∃ a, x = some a ∧ K a := by
  cases x with
  | none => simp [optP]
  | some a => simp [optP]

def afterW (C : CfgW) (d : Option Nat) (st : St) (out : Out) : Option St :=
  if dstB C.np C.nt d && hallB (killL (setL st.L out.upd) out.cut) out.cut then some { E := putE (purgeE st.E out.cut) d out.val, L := killL (setL st.L out.upd) out.cut } else none
def actP (C : CfgW) (o : Oper) (st : St) (K : Out → St → Prop) : Prop :=
  optP (opAnyW C (lk st.L) (o.dst.getD 0) (evalF C.G st.e) o) fun r => r.1.K (optP (afterW C o.dst st r.2) (K r.2))

theorem actP_sound {C : CfgW} {ops : Array Oper} {o : Oper} {st : St} {K : Out → St → Prop} (hg : guardF ops st.e o = some true) (h : actP C o st K) :
    ∃ out st', FAct C.cfg ops o st.e (lk st.L) out st'.e (lk st'.L) ∧ K out st' := by
  obtain ⟨⟨p, out⟩, h1, h2⟩ := optP_iff.1 h
  obtain ⟨h2, h3⟩ := Cn.K_h h2
  obtain ⟨st', h4, h5⟩ := optP_iff.1 h3
  refine ⟨out, st', after_sound (C := C.cfg) ?_ h4, h5⟩
  simp only [act, hg, Option.bind_some, cond_true]
  exact opAnyW_sound h1 h2
theorem skip_sound {C : CfgW} {ops : Array Oper} {o : Oper} {st : St} {K : Out → St → Prop} (hg : guardF ops st.e o = some false) (h : optP (afterW C o.dst st { val := .und }) (K { val := .und })) :
    ∃ out st', FAct C.cfg ops o st.e (lk st.L) out st'.e (lk st'.L) ∧ K out st' := by
  obtain ⟨st', h4, h5⟩ := optP_iff.1 h
  refine ⟨_, st', after_sound (C := C.cfg) ?_ h4, h5⟩
  simp only [act, hg, Option.bind_some, cond_false]

/-- one operation with its guard: K: what was done, the state as it is known ahead of it, the state behind -/
def stepP (C : CfgW) (ops : Array Oper) (o : Oper) (st : St) (K : St → Out → St → Prop) : Prop :=
  match guardI ops st.e o with
  | .yes => actP C o st (K st)
  | .no => optP (afterW C o.dst st { val := .und }) (K st { val := .und })
  | .on b => condP b (actP C o (setG ops o true st) (K (setG ops o true st))) (optP (afterW C o.dst (setG ops o false st) { val := .und }) (K (setG ops o false st) { val := .und }))
  | .bad => False

theorem stepP_sound {C : CfgW} {ops : Array Oper} {o : Oper} {st : St} {K : St → Out → St → Prop} (h : stepP C ops o st K) :
    ∃ s out st', s.e = st.e ∧ s.L = st.L ∧ FAct C.cfg ops o st.e (lk st.L) out st'.e (lk st'.L) ∧ K s out st' := by
  unfold stepP at h
  split at h
  · rename_i hg
    obtain ⟨out, st', h1, h2⟩ := actP_sound (ops := ops) (guardI_yes hg) h
    exact ⟨st, out, st', rfl, rfl, h1, h2⟩
  · rename_i hg
    obtain ⟨out, st', h1, h2⟩ := skip_sound (ops := ops) (guardI_no hg) h
    exact ⟨st, out, st', rfl, rfl, h1, h2⟩
  · rename_i b hg
    obtain ⟨q1, q2, q3⟩ := guardI_on hg
    cases b with
    | true =>
      obtain ⟨out, st', h1, h2⟩ := actP_sound (ops := ops) (st := setG ops o true st) (by rw [q2]; exact q1) h
      rw [q2, q3] at h1
      exact ⟨_, out, st', q2, q3, h1, h2⟩
    | false =>
      obtain ⟨out, st', h1, h2⟩ := skip_sound (ops := ops) (st := setG ops o false st) (by rw [q2]; exact q1) h
      rw [q2, q3] at h1
      exact ⟨_, out, st', q2, q3, h1, h2⟩
  · exact h.elim

def evalOpsP (C : CfgW) (ops : Array Oper) : List Oper → St → (St → Prop) → Prop
  | [], st, K => K st
  | o :: r, st, K => stepP C ops o st fun _ _ s => evalOpsP C ops r s K

theorem evalOpsP_sound {C : CfgW} {ops : Array Oper} {K : St → Prop} : ∀ (l : List Oper) (i : Nat) {st : St}, (∀ j, j < l.length → ops[i + j]? = l[j]?) → evalOpsP C ops l st K →
    ∃ st', RunP C.cfg ops (List.range' i l.length) st.e (lk st.L) st'.e (lk st'.L) ∧ K st'
  | [], i, st, _, h => ⟨st, .nil, h⟩
  | o :: r, i, st, hl, h => by
    have hi : ops[i]? = some o := by simpa using hl 0 (by simp)
    have hr : ∀ j, j < r.length → ops[i + 1 + j]? = r[j]? := fun j hj => by
      have := hl (j + 1) (by simpa using hj)
      rw [Nat.add_right_comm, Nat.add_assoc]
      simpa using this
    obtain ⟨s, out, st1, _, _, h1, h2⟩ := stepP_sound h
    obtain ⟨st', h3, h4⟩ := evalOpsP_sound r (i + 1) hr h2
    rw [List.length_cons, List.range'_succ]
    exact ⟨st', .cons hi h1 h3, h4⟩

def evalAnyP (C : CfgW) (ops : Array Oper) : List Oper → Nat → St → List (Nat × Ent) → (St → List (Nat × Ent) → Prop) → Prop
  | [], _, st, log, K => K st log.reverse
  | o :: r, i, st, log, K => stepP C ops o st fun s0 out s => condP (entB ops o s0) (evalAnyP C ops r (i + 1) s ((i, entOf ops o s0 out) :: log) K) False

theorem evalAnyP_sound {C : CfgW} {ops : Array Oper} {K : St → List (Nat × Ent) → Prop} : ∀ (l : List Oper) (i : Nat) (log : List (Nat × Ent)) {st : St}, (∀ j, j < l.length → ops[i + j]? = l[j]?) → evalAnyP C ops l i st log K →
    ∃ st' log' t, K st' log' ∧ log' = log.reverse ++ t ∧ t.map (·.1) = List.range' i l.length ∧ Run C.cfg ops t st.e (lk st.L) st'.e (lk st'.L)
  | [], i, log, st, _, h => ⟨st, log.reverse, [], h, by simp, rfl, .nil⟩
  | o :: r, i, log, st, hl, h => by
    have hi : ops[i]? = some o := by simpa using hl 0 (by simp)
    have hr : ∀ j, j < r.length → ops[i + 1 + j]? = r[j]? := fun j hj => by
      have := hl (j + 1) (by simpa using hj)
      rw [Nat.add_right_comm, Nat.add_assoc]
      simpa using this
    obtain ⟨s0, out, st1, he, hL, h1, h2⟩ := stepP_sound h
    cases hb : entB ops o s0 with
    | false => rw [hb] at h2; exact h2.elim
    | true =>
      rw [hb] at h2
      obtain ⟨st', log', t, h3, q1, q2, q3⟩ := evalAnyP_sound r (i + 1) _ hr h2
      have told := entOf_told (C := C.cfg) (out := out) hb
      rw [he, hL] at told
      refine ⟨st', log', (i, entOf ops o s0 out) :: t, h3, by rw [q1]; simp, ?_, .cons hi h1 told q3⟩
      rw [List.map_cons, q2, List.length_cons, List.range'_succ]

def regionP (C : CfgW) (ops : Array Oper) (draw : Bool) (st : St) (K : St → Prop) : Prop :=
  condP draw (condP (lowB ops.toList 0) (evalAnyP C ops ops.toList 0 st [] fun s log => condP (pairsB ops ops.size log) (K s) False) False)
    (evalOpsP C ops ops.toList st K)

theorem regionP_core {C : CfgW} (hC : CfgOK C.cfg) {k : Wk} (hk : k.G = C.G) (hn : k.nt = C.nt ∧ k.np = C.np) {ops : Array Oper} {draw : Bool} {st : St} {K : St → Prop} {Q : Exit → Act → World → Prop}
    (h : regionP C ops draw st K) (hQ : ∀ st', K st' → ∀ β S a w, RlF k β S st'.e (lk st'.L) a w → Q .normal a w) {β : Nat → Value} {S : Nat → Prop} {a : Act} {w : World} (R : RlF k β S st.e (lk st.L) a w) :
    (draw = false → wpOps C.P ops Q (List.range ops.size) a w) ∧ (draw = true → wpAny C.P .any ops Q ops.size (Array.replicate ops.size false) a { w with drawn := w.drawn + 1 }) := by
  unfold regionP at h
  cases draw with
  | false =>
    obtain ⟨st', hr, h2⟩ := evalOpsP_sound (C := C) (ops := ops) ops.toList 0 (fun j hj => by simp) h
    have := run_sound hC hk hn (hQ st' h2) _ β S a w _ _ hr R
    refine ⟨fun _ => ?_, (fun h => by cases h)⟩
    rw [List.range_eq_range']
    have e : ops.toList.length = ops.size := by simp
    rw [e] at this
    exact this
  | true =>
    simp only [condP] at h
    cases hlow : lowB ops.toList 0 with
    | false => rw [hlow] at h; exact h.elim
    | true =>
      rw [hlow] at h
      obtain ⟨st', log, t, h2, q1, q2, q3⟩ := evalAnyP_sound (C := C) (ops := ops) ops.toList 0 [] (fun j hj => by simp) h
      simp only [List.reverse_nil, List.nil_append] at q1
      subst q1
      cases hp : pairsB ops ops.size log with
      | false => rw [hp] at h2; exact h2.elim
      | true =>
        rw [hp] at h2
        have hlen : log.length = ops.size := by
          have := congrArg List.length q2
          simpa using this
        have hR : RlF k β S st.e (lk st.L) a { w with drawn := w.drawn + 1 } := ⟨(R.rl.drew), R.env, R.big⟩
        have hkey : ∀ j, j < ops.size → ∃ b, (j, b) ∈ log := by
          intro j hj
          have : j ∈ log.map (·.1) := by
            rw [q2]
            simp
            omega
          obtain ⟨p, hp, rfl⟩ := List.mem_map.1 this
          exact ⟨p.2, hp⟩
        have := any_sound hC hk hn (ops := ops) (fun j o ho ed hed hb => by
          have := lowB_sound ops.toList 0 hlow j o (by simpa using ho) ed hed hb
          omega) (hQ st' h2) ops.size log (Array.replicate ops.size false) β S a { w with drawn := w.drawn + 1 } _ _ q3
          (pairsB_sound hp (by rw [q2]; exact List.pairwise_lt_range')) (by simp)
          (fun j hj => ⟨fun _ => hkey j hj, fun _ => by simp [hj]⟩)
          (fun j o ho hj => by
            exfalso
            have hlt : j < ops.size := (Array.getElem?_eq_some_iff.1 ho).1
            simp [hlt] at hj) hR
        rw [hlen] at this
        exact ⟨(fun h => by cases h), fun _ => this⟩

theorem regionP_sound {C : CfgW} (hC : CfgOK C.cfg) (hm : C.P.follows .mixedOrders = true) {k : Wk} (hk : k.G = C.G) (hn : k.nt = C.nt ∧ k.np = C.np) {id : Nat} {ops : Array Oper} {draw : Bool} {st : St} {K : St → Prop} {Q : Exit → Act → World → Prop}
    (h : regionP C ops draw st K) (hQ : ∀ st', K st' → ∀ β S a w, RlF k β S st'.e (lk st'.L) a w → Q .normal a w) {β : Nat → Value} {S : Nat → Prop} {a : Act} {w : World} (R : RlF k β S st.e (lk st.L) a w) :
    (Code.region id ops draw).wp C.P Q a w := by
  have := regionP_core hC hk hn h hQ R
  cases draw with
  | false => exact wp_region (this.1 rfl)
  | true => exact wp_region_any hm (this.2 rfl)

/-! ### there is one way -/
def Det {α : Type} (f : (α → Prop) → Prop) : Prop := ∀ K, f K → ∃ a, K a ∧ ∀ K', K' a → f K'
theorem actP_det {C : CfgW} {o : Oper} {st : St} {K : Out → St → Prop} (h : actP C o st K) : ∃ out s, K out s ∧ ∀ K' : Out → St → Prop, K' out s → actP C o st K' := by
  obtain ⟨⟨p, out⟩, h1, h2⟩ := optP_iff.1 h
  obtain ⟨h2, h3⟩ := Cn.K_h h2
  obtain ⟨st', h4, h5⟩ := optP_iff.1 h3
  exact ⟨out, st', h5, fun K' hK => optP_iff.2 ⟨_, h1, Cn.K_mk h2 (optP_iff.2 ⟨_, h4, hK⟩)⟩⟩
theorem stepP_det {C : CfgW} {ops : Array Oper} {o : Oper} {st : St} {K : St → Out → St → Prop} (h : stepP C ops o st K) : ∃ s0 out s, K s0 out s ∧ ∀ K' : St → Out → St → Prop, K' s0 out s → stepP C ops o st K' := by
  unfold stepP at h ⊢
  cases hg : guardI ops st.e o with
  | yes =>
    rw [hg] at h
    obtain ⟨out, s, h1, h2⟩ := actP_det h
    exact ⟨st, out, s, h1, fun K' hK => h2 (K' st) hK⟩
  | no =>
    rw [hg] at h
    obtain ⟨s, h1, h2⟩ := optP_iff.1 h
    exact ⟨st, _, s, h2, fun K' hK => optP_iff.2 ⟨_, h1, hK⟩⟩
  | on b =>
    rw [hg] at h
    cases b with
    | true =>
      obtain ⟨out, s, h1, h2⟩ := actP_det h
      exact ⟨_, out, s, h1, fun K' hK => h2 (K' _) hK⟩
    | false =>
      obtain ⟨s, h1, h2⟩ := optP_iff.1 h
      exact ⟨_, _, s, h2, fun K' hK => optP_iff.2 ⟨_, h1, hK⟩⟩
  | bad => rw [hg] at h; exact h.elim
theorem evalOpsP_det {C : CfgW} {ops : Array Oper} : ∀ (l : List Oper) (st : St), Det (evalOpsP C ops l st)
  | [], st => fun K h => ⟨st, h, fun _ hK => hK⟩
  | o :: r, st => fun K h => by
    obtain ⟨s0, out, s, h1, h2⟩ := stepP_det h
    obtain ⟨a, h3, h4⟩ := evalOpsP_det r s K h1
    exact ⟨a, h3, fun K' hK => h2 _ (h4 K' hK)⟩
theorem evalAnyP_det {C : CfgW} {ops : Array Oper} : ∀ (l : List Oper) (i : Nat) (st : St) (log : List (Nat × Ent)) (K : St → List (Nat × Ent) → Prop), evalAnyP C ops l i st log K → ∃ s lg, K s lg ∧ ∀ K' : St → List (Nat × Ent) → Prop, K' s lg → evalAnyP C ops l i st log K'
  | [], i, st, log, K, h => ⟨st, log.reverse, h, fun _ hK => hK⟩
  | o :: r, i, st, log, K, h => by
    obtain ⟨s0, out, s, h1, h2⟩ := stepP_det h
    cases hb : entB ops o s0 with
    | false => rw [hb] at h1; exact h1.elim
    | true =>
      rw [hb] at h1
      obtain ⟨a, lg, h3, h4⟩ := evalAnyP_det r (i + 1) s _ K h1
      exact ⟨a, lg, h3, fun K' hK => h2 _ (by rw [hb]; exact h4 K' hK)⟩
theorem regionP_det {C : CfgW} {ops : Array Oper} {draw : Bool} {st : St} : Det (regionP C ops draw st) := by
  intro K h
  unfold regionP at h
  cases draw with
  | false => exact evalOpsP_det _ _ K h
  | true =>
    simp only [condP] at h
    cases hlow : lowB ops.toList 0 with
    | false => rw [hlow] at h; exact h.elim
    | true =>
      rw [hlow] at h
      obtain ⟨s, lg, h3, h4⟩ := evalAnyP_det _ _ _ _ _ h
      cases hp : pairsB ops ops.size lg with
      | false => rw [hp] at h3; exact h3.elim
      | true =>
        rw [hp] at h3
        refine ⟨s, h3, fun K' hK => ?_⟩
        unfold regionP
        simp only [condP]
        rw [hlow]
        exact h4 _ (by rw [hp]; exact hK)
end Go.Proofs.Ytgecpcajmhgboaa.M

/- Code and functions reckoned as what is asked of them. -/


namespace Go.Proofs.Ytgecpcajmhgboaa.M
open Go

def canonP (live : List Nat) (st : St) (K : St → Prop) : Prop := optP (canon live st) K

/-- .. or left as it is -/
def canonO (live : List Nat) (st : St) : Option St :=
  match live with
  | [] => some st
  | t :: r => canon (t :: r) st
theorem canonO_cases {live : List Nat} {st s : St} (h : canonO live st = some s) : s = st ∨ canon live st = some s := by
  cases live with
  | nil => exact .inl (Option.some.inj h).symm
  | cons t r => exact .inr h

/-- a small number in a slot, value by value -/
def splitV (t : Nat) (x : UInt8) (st : St) (K : St → Prop) : List Nat → Prop
  | [] => False
  | v :: r => condP (decide (x = UInt8.ofNat v)) (K { E := putE st.E (some t) (.pv (.sc .u8 (UInt8.ofNat v))), L := st.L }) (splitV t x st K r)
def splitP (sp : List Nat) (st : St) (K : St → Prop) : Prop :=
  match sp with
  | [] => K st
  | t :: vs => match st.e t with
    | .pv (.sc .u8 x) => splitV t x st K vs
    | _ => False
theorem putE_same {E : List (Nat × A)} {t : Nat} {x : A} (h : (lk E t).getD .bad = x) (hx : x ≠ .bad) : ∀ u, (lk (putE E (some t) x) u).getD .bad = (lk E u).getD .bad := by
  intro u
  rw [putE, lk_cons]
  by_cases e : t = u
  · subst e; rw [if_pos rfl, h]; rfl
  · rw [if_neg e, lk_filterKey (fun m => !Nat.beq m t)]
    have : Nat.beq u t = false := by
      cases hq : Nat.beq u t with
      | false => rfl
      | true => exact absurd (nbeq.1 hq).symm e
    rw [this]; rfl
theorem splitV_some {t : Nat} {x : UInt8} {st : St} (hx : st.e t = .pv (.sc .u8 x)) {K : St → Prop} : ∀ {vs : List Nat}, splitV t x st K vs →
    ∃ st', K st' ∧ (st'.e = st.e ∧ st'.L = st.L) ∧ ∀ K' : St → Prop, K' st' → splitV t x st K' vs
  | [], h => h.elim
  | v :: r, h => by
    unfold splitV at h
    by_cases e : x = UInt8.ofNat v
    · rw [decide_eq_true e] at h
      subst e
      refine ⟨_, h, ⟨funext (putE_same hx (fun q => by cases q)), rfl⟩, fun K' hK => ?_⟩
      unfold splitV
      rw [decide_eq_true rfl]
      exact hK
    · rw [decide_eq_false e] at h
      obtain ⟨s, h1, h2, h3⟩ := splitV_some hx h
      refine ⟨s, h1, h2, fun K' hK => ?_⟩
      unfold splitV
      rw [decide_eq_false e]
      exact h3 K' hK
theorem splitP_some {sp : List Nat} {st : St} {K : St → Prop} (h : splitP sp st K) : ∃ st', K st' ∧ (st'.e = st.e ∧ st'.L = st.L) ∧ ∀ K' : St → Prop, K' st' → splitP sp st K' := by
  unfold splitP at h
  split at h
  · exact ⟨st, h, ⟨rfl, rfl⟩, fun K' hK => hK⟩
  · rename_i t vs
    split at h
    · rename_i x hx
      obtain ⟨s, h1, h2, h3⟩ := splitV_some hx h
      refine ⟨s, h1, h2, fun K' hK => ?_⟩
      unfold splitP
      simp only [hx]
      exact h3 K' hK
    · exact h.elim

/-- behind a code that was left in some way: what goes on, or what is left farther -/
def Ex.go (K : Ex → St → Prop) (N : St → Prop) (e : Ex) (s : St) : Prop :=
  match e with
  | .normal => N s
  | .exit i => K (.exit i) s
  | .ret => K .ret s
def Ex.blk (id : Nat) (K : Ex → St → Prop) (e : Ex) (s : St) : Prop :=
  match e with
  | .exit j => bif Nat.beq j id then K .normal s else K (.exit j) s
  | .normal => K .normal s
  | .ret => K .ret s

def loopP (f : St → (Ex → St → Prop) → Prop) : Nat → St → (Ex → St → Prop) → Prop
  | 0, _, _ => False
  | n + 1, st, K => f st (Ex.go K fun s => loopP f n s K)

/-- a loop, from its head on -/
structure Loop (tag : Nat) (f : St → (Ex → St → Prop) → Prop) (st : St) (K : Ex → St → Prop) : Prop where
  ex : ∃ n, loopP f n st K

/-- a slot's value; 2000 and more: what stands where a slot points; 4000 and more: a view of where it points -/
def fzVal (st : St) (t : Nat) : A :=
  bif Nat.ble 4000 t then (match st.e (t - 4000) with
    | .p n π => .vw n π 0 0 none
    | _ => .bad) else
  bif Nat.ble 2000 t then (match st.e (t - 2000) with
    | .p n π => match lk st.L n with
      | some b => b.get π
      | none => .bad
    | _ => .bad) else st.e t
/-- the blocks of some slots are written no more -/
def fzSt0 (ts : List Nat) (st : St) : Option St :=
  match ownRowsL (lk st.L) (ts.map (fzVal st)) with
  | [] => some st
  | n :: r => some { E := st.E.map fun p => (p.1, fzA (lk st.L) (n :: r) p.2), L := (st.L.filter fun p => !memN p.1 (n :: r)).map fun p => (p.1, fzB (lk st.L) (n :: r) p.2) }
/-- .. and of no row the capacity is known -/
def fzSt (ts : List Nat) (st : St) : Option St :=
  match ts with
  | [] => some st
  | t :: r => (fzSt0 (t :: r) st).map fun s => { E := s.E, L := loL s.L }
theorem addN_mem {m : Nat} : ∀ {l ns : List Nat}, m ∈ addN ns l → m ∈ ns ∨ m ∈ l
  | [], ns, h => .inl h
  | n :: r, ns, h => by
    unfold addN at h
    cases hq : memN n ns with
    | true =>
      rw [hq] at h
      exact (addN_mem h).imp id (fun h => by simp [h])
    | false =>
      rw [hq] at h
      rcases addN_mem h with h | h
      · rcases List.mem_append.1 h with h | h
        · exact .inl h
        · exact .inr (by simp at h; simp [h])
      · exact .inr (by simp [h])
mutual
theorem ownRows_some {L : Nat → Option Blk} {m : Nat} : ∀ {x : A}, m ∈ ownRows L x → ∃ b, L m = some b
  | .o n, h => by
    simp only [ownRows] at h
    split at h
    · rename_i rc ex hL
      simp at h
      subst h
      exact ⟨_, hL⟩
    · cases h
  | .vw n π q l c, h => by
    simp only [ownRows] at h
    split at h
    · rename_i r hr
      obtain ⟨b, hb, _⟩ := Option.bind_eq_some_iff.1 hr
      simp at h
      subst h
      exact ⟨b, hb⟩
    · cases h
  | .st fs, h => by
    simp only [ownRows] at h
    exact ownRowsL_some h
  | .pv _, h => by simp [ownRows] at h
  | .rp _, h => by simp [ownRows] at h
  | .p .., h => by simp [ownRows] at h
  | .pr .., h => by simp [ownRows] at h
  | .tup _, h => by simp [ownRows] at h
  | .fn .., h => by simp [ownRows] at h
  | .und, h => by simp [ownRows] at h
  | .bad, h => by simp [ownRows] at h
theorem ownRowsL_some {L : Nat → Option Blk} {m : Nat} : ∀ {xs : List A}, m ∈ ownRowsL L xs → ∃ b, L m = some b
  | [], h => by cases h
  | x :: xs, h => by
    simp only [ownRowsL] at h
    rcases addN_mem h with h | h
    · exact ownRows_some h
    · exact ownRowsL_some h
end
theorem fzSt0_sound {ts : List Nat} {st st' : St} (h : fzSt0 ts st = some st') {k : Wk} {β : Nat → Value} {S : Nat → Prop} {a : Act} {w : World} (R : RlF k β S st.e (lk st.L) a w) :
    ∃ S', RlF k β S' st'.e (lk st'.L) a w := by
  unfold fzSt0 at h
  have hr0 : ∀ m, m ∈ ownRowsL (lk st.L) (ts.map (fzVal st)) → ∃ b, lk st.L m = some b := fun m hm => ownRowsL_some hm
  generalize ownRowsL (lk st.L) (ts.map (fzVal st)) = ns at h hr0
  split at h
  · cases h
    exact ⟨S, R⟩
  · rename_i n r
    cases h
    generalize n :: r = ns at hr0
    have e1 : lk ((st.L.filter fun p => !memN p.1 ns).map fun p => (p.1, fzB (lk st.L) ns p.2)) = cutM ns (lk st.L) := by
      funext m
      rw [lk_mapVal (fzB (lk st.L) ns), lk_filterKey (fun m => !memN m ns)]
      unfold cutM
      cases memN m ns <;> simp
    obtain ⟨S', R1, tr⟩ := R.rl.freezesM (ns := ns) (fun n hn => hr0 n (memN_iff.1 hn))
    have he : ∀ t, (St.e { E := st.E.map fun p => (p.1, fzA (lk st.L) ns p.2), L := (st.L.filter fun p => !memN p.1 ns).map fun p => (p.1, fzB (lk st.L) ns p.2) }) t = fzA (lk st.L) ns (st.e t) := by
      intro t
      simp only [St.e]
      rw [lk_mapVal (fzA (lk st.L) ns)]
      cases lk st.E t <;> rfl
    refine ⟨S', ?_, fun t => ?_, fun t ht => ?_⟩
    · show Rl k β S' [] (lk ((st.L.filter fun p => !memN p.1 ns).map fun p => (p.1, fzB (lk st.L) ns p.2))) a w
      rw [e1]
      exact R1
    · rw [he t]
      show RepA β S' w.heap (lk ((st.L.filter fun p => !memN p.1 ns).map fun p => (p.1, fzB (lk st.L) ns p.2))) _ _
      rw [e1]
      exact tr _ _ (R.env t)
    · rw [he t, R.big t ht]; rfl
theorem fzSt_sound {ts : List Nat} {st st' : St} (h : fzSt ts st = some st') {k : Wk} {β : Nat → Value} {S : Nat → Prop} {a : Act} {w : World} (R : RlF k β S st.e (lk st.L) a w) :
    ∃ S', RlF k β S' st'.e (lk st'.L) a w := by
  unfold fzSt at h
  split at h
  · cases h
    exact ⟨S, R⟩
  · simp only [Option.map_eq_some_iff] at h
    obtain ⟨s, h1, rfl⟩ := h
    obtain ⟨S', R1⟩ := fzSt0_sound h1 R
    obtain ⟨M, tr⟩ := lo_core R1.rl.mem
    exact ⟨S', { R1.rl with mem := M, env := fun t x hx => by cases hx }, fun t => tr _ _ (R1.env t), R1.big⟩

/-- a state whose upper slots are let go -/
def cut (m : Nat) (st : St) : St := { E := st.E.filter fun p => Nat.blt p.1 m, L := st.L }
/-- what a round is handed -/
def withPs (ps : List Nat) (x : List PV) (st : St) : St := { E := (ps.zip (x.map A.pv)).reverse ++ st.E, L := st.L }
def rngP (f : List PV → St → (Ex → St → Prop) → Prop) : List (List PV) → St → (Ex → St → Prop) → Prop
  | [], s, K => K .normal s
  | x :: xs, s, K => f x s (Ex.go K fun s => rngP f xs s K)
/-- a loop over a function, by what it yields -/
structure Rng (tag : Nat) (f : List PV → St → (Ex → St → Prop) → Prop) (xs : List (List PV)) (st : St) (K : Ex → St → Prop) : Prop where
  r : rngP f xs st K
/-- no puttings off, no scopes -/
def notDefer (o : Oper) : Bool :=
  match o.op with
  | .defer _ => false
  | _ => true
def plainC : Code → Bool
  | .region _ ops _ => ops.toList.all notDefer
  | .seq a b => plainC a && plainC b
  | .cond _ a b => plainC a && plainC b
  | .block _ a => plainC a
  | .loop a => plainC a
  | .scope _ => false
  | .rangeFunc .. => false
  | _ => true
def rngStart (C : CfgW) (m : Nat) (live : List Nat) (g : Operand) (ps : List Nat) (a b : Code) (st : St) (K : List (List PV) → St → Prop) : Prop :=
  condP (plainC a && plainC b && Nat.ble C.np m && live.all (fun t => Nat.blt t m) && ps.all fun t => Nat.ble m t && Nat.blt t C.nt)
    (match evalF C.G st.e g with
    | .fn gf caps => optP (C.it gf caps (lk st.L)) fun r => condP (r.1.all fun n => (lk st.L n).isSome && !memN n (liveNames live st)) (canonP live st fun s => K r.2 s) False
    | _ => False) False
def Ex.one (K : St → Prop) (e : Ex) (s : St) : Prop :=
  match e with
  | .normal => K s
  | _ => False

def evalP : CfgW → (Nat → List Nat) → Nat → Code → St → (Ex → St → Prop) → Prop
  | _, _, _, .skip, st, K => K .normal st
  | C, lv, _, .region id ops draw, st, K => splitP (lv (5000000 + id)) st fun st => optP (fzSt (lv (1000000 + id)) st) fun st => regionP C ops draw st fun s => K .normal s
  | C, lv, cur, .seq a b, st, K => evalP C lv cur a st (Ex.go K fun s => evalP C lv cur b s K)
  | C, lv, cur, .cond c a b, st, K => match evalF C.G st.e c with
    | .pv (.sc .b t) => condP t (evalP C lv cur a st K) (evalP C lv cur b st K)
    | _ => False
  | C, lv, _, .block id body, st, K => evalP C lv id body st (Ex.blk id K)
  | C, lv, cur, .loop body, st, K => match lv (4000000 + cur) with
    | n :: live => optP (canonO live st) fun s => loopP (fun s k => evalP C lv cur body s (Ex.go k fun s1 => optP (canonO live s1) (k .normal))) n s K
    | [] => canonP (lv cur) st fun s => Loop cur (fun s k => evalP C lv cur body s (Ex.go k fun s1 => canonP (lv cur) s1 (k .normal))) s K
  | _, _, _, .exit id, st, K => K (.exit id) st
  | _, lv, _, .ret, st, K => optP (fzSt (lv 6000000) st) fun s => K .ret s
  | C, lv, cur, .scope c, st, K => evalP C lv cur c st K
  | _, _, _, .label _, st, K => K .normal st
  | C, lv, cur, .rangeFunc g ps a b, st, K => rngStart C ((lv (3000000 + cur)).headD 0) ((lv (3000000 + cur)).drop 1) g ps.toList a b st fun xs s =>
      Rng cur (fun x s k => condP (Nat.beq x.length ps.size) (evalP { C with np := (lv (3000000 + cur)).headD 0 } lv cur a (withPs ps.toList x s) (Ex.one fun s1 =>
        evalP { C with np := (lv (3000000 + cur)).headD 0 } lv cur b s1 (Ex.go (fun e s => k e (cut ((lv (3000000 + cur)).headD 0) s)) fun s2 => canonP ((lv (3000000 + cur)).drop 1) s2 fun s3 => k .normal s3))) False) xs s K
  | _, _, _, _, _, _ => False
end Go.Proofs.Ytgecpcajmhgboaa.M
