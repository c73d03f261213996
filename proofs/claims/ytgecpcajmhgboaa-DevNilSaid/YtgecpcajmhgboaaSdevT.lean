/- Part of the proofs: what functions of the program do: plain functions, and the walks that show it. No condition. -/
import Derived.KernelRfl
import Derived.Test.YtgecpcajmhgboaaLe
import Derived.Test.YtgecpcajmhgboaaSdevS
set_option linter.unusedVariables false
set_option linter.unusedSimpArgs false
set_option autoImplicit false
namespace Go.Proofs.Ytgecpcajmhgboaa.M
open Go
/-! devices: keys within the sectors; what back does -/
structure KeysOK (m : Nat) (kv : List (PV × PV)) : Prop where
  lt : ∀ p ∈ kv, ∃ n : Int, p.1 = .sc .i n ∧ 0 ≤ n ∧ n < m
  nd : (kv.map (·.1)).Nodup
def WrOK (m : Nat) (ws : List PV) : Prop := ∀ x ∈ ws, ∃ (n : Int) (y : PV), x = .st [.sc .i n, y] ∧ 0 ≤ n ∧ n < m
structure devC (now : List PV) (sure : List (PV × PV)) (writes : List PV) : Prop where
  b : devB now sure writes = true
  k : KeysOK now.length sure
  w : WrOK now.length writes
def keyN (x : PV) : Nat := match x with
  | .sc .i n => Int.toNat n
  | _ => 0
def backV (now : List PV) (sure : List (PV × PV)) : List PV := (List.range now.length).map fun (i : Nat) => (mget sure (.sc .i ((i : Nat) : Int))).getD (now.getD i .nilp)
theorem backV_len (now : List PV) (sure : List (PV × PV)) : (backV now sure).length = now.length := by simp [backV]
theorem backV_at (now : List PV) (sure : List (PV × PV)) {i : Nat} (h : i < now.length) : (backV now sure).getD i .nilp = (mget sure (.sc .i (i : Int))).getD (now.getD i .nilp) := by
  rw [getD_lt _ _ _ (by rw [backV_len]; exact h)]
  simp [backV]
theorem keyEq_int {x y : Int} : keyEq (.sc .i x) (.sc .i y) = true ↔ x = y := eqSc_same (k := .i) rfl
theorem mget_of : ∀ {kv : List (PV × PV)} {m : Nat} {p : PV × PV}, KeysOK m kv → p ∈ kv → mget kv p.1 = some p.2
  | q :: kv, m, p, h, hp => by
    obtain ⟨n, h1, _⟩ := h.lt p hp
    obtain ⟨n', h1', _⟩ := h.lt q (by simp)
    have nd := List.nodup_cons.1 (by have := h.nd; rwa [List.map_cons] at this)
    unfold mget
    rcases List.mem_cons.1 hp with rfl | hp
    · have : keyEq p.1 p.1 = true := by rw [h1]; exact keyEq_int.2 rfl
      rw [this]; rfl
    · have : keyEq p.1 q.1 = false := by
        rw [Bool.eq_false_iff]
        intro e
        rw [h1, h1'] at e
        have e := keyEq_int.1 e
        refine nd.1 (List.mem_map.2 ⟨p, hp, ?_⟩)
        rw [h1, h1', e]
      rw [this]
      exact mget_of (m := m) ⟨fun p hp => h.lt p (by simp [hp]), nd.2⟩ hp
theorem mget_mem2 : ∀ {kv : List (PV × PV)} {m : Nat} {n : Int} {v : PV}, KeysOK m kv → mget kv (.sc .i n) = some v → (.sc .i n, v) ∈ kv
  | [], m, n, v, h, hv => by cases hv
  | q :: kv, m, n, v, h, hv => by
    obtain ⟨n', h1', _⟩ := h.lt q (by simp)
    have nd := List.nodup_cons.1 (by have := h.nd; rwa [List.map_cons] at this)
    unfold mget at hv
    cases he : keyEq (.sc .i n) q.1 with
    | true =>
      rw [he] at hv
      cases hv
      rw [h1'] at he
      have he := keyEq_int.1 he
      have : q = (.sc .i n, q.2) := by rw [he, ← h1']
      rw [← this]; simp
    | false =>
      rw [he] at hv
      exact List.mem_cons_of_mem _ (mget_mem2 (m := m) ⟨fun p hp => h.lt p (by simp [hp]), nd.2⟩ hv)
theorem KeysOK.nil {m : Nat} : KeysOK m [] := ⟨fun _ h => (by cases h), List.nodup_nil⟩
theorem backV_secB {now : List PV} {sure : List (PV × PV)} (h1 : secB now = true) (h2 : sureB sure = true) : secB (backV now sure) = true := List.all_eq_true.2 fun x hx => by
  obtain ⟨i, hi, rfl⟩ := List.mem_map.1 hx
  have hi := List.mem_range.1 hi
  cases hm : mget sure (.sc .i (i : Int)) with
  | none => exact secB_at h1 hi
  | some v => exact mget_sec h2 hm
/-- a list that becomes another one, place by place -/
structure Laid (now T now' : List PV) (done : Nat → Prop) : Prop where
  len : now'.length = now.length
  mid : ∀ i, i < now.length → now'.getD i .nilp = T.getD i .nilp ∨ now'.getD i .nilp = now.getD i .nilp
  at_ : ∀ i, i < now.length → done i → now'.getD i .nilp = T.getD i .nilp
theorem Laid.start (now T : List PV) : Laid now T now fun _ => False := ⟨rfl, fun _ _ => .inr rfl, fun _ _ h => h.elim⟩
theorem Laid.set {now T now' : List PV} {done : Nat → Prop} (h : Laid now T now' done) {i : Nat} {x : PV} (hi : i < now.length) (hx : T.getD i .nilp = x) {done' : Nat → Prop} (hd : ∀ j, done' j → done j ∨ j = i) : Laid now T (now'.set i x) done' := by
  have e : ∀ j, j < now.length → (now'.set i x).getD j .nilp = if i = j then x else now'.getD j .nilp := fun j hj => by
    have h1 : j < now'.length := by rw [h.len]; exact hj
    rw [getD_lt _ _ _ (by rw [List.length_set]; exact h1), List.getElem_set, getD_lt _ _ _ h1]
  refine ⟨by rw [List.length_set, h.len], fun j hj => ?_, fun j hj hdj => ?_⟩
  · rw [e j hj]
    by_cases hij : i = j
    · subst hij; rw [if_pos rfl]; exact .inl hx.symm
    · rw [if_neg hij]; exact h.mid j hj
  · rw [e j hj]
    by_cases hij : i = j
    · subst hij; rw [if_pos rfl]; exact hx.symm
    · rw [if_neg hij]
      exact h.at_ j hj ((hd j hdj).resolve_right (Ne.symm hij))
theorem Laid.all {now : List PV} {sure : List (PV × PV)} {now' : List PV} {done : Nat → Prop} (h : Laid now (backV now sure) now' done) (hk : KeysOK now.length sure) (hd : ∀ p ∈ sure, done (keyN p.1)) : now' = backV now sure := by
  refine List.ext_getElem (by rw [h.len, backV_len]) fun i h1 h2 => ?_
  have hi : i < now.length := by rw [← h.len]; exact h1
  rw [← getD_lt _ _ .nilp h1, ← getD_lt _ _ .nilp h2]
  rcases h.mid i hi with e | e
  · exact e
  · cases hm : mget sure (.sc .i (i : Int)) with
    | none => rw [e, backV_at _ _ hi, hm]; rfl
    | some v =>
      refine h.at_ i hi ?_
      have := hd _ (mget_mem2 hk hm)
      simpa [keyN] using this
noncomputable instance devC_dec (now : List PV) (sure : List (PV × PV)) (writes : List PV) : Decidable (devC now sure writes) := Classical.propDecidable _
end Go.Proofs.Ytgecpcajmhgboaa.M
