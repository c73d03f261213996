/- Part of the proofs: what functions of the program do: plain functions, and the walks that show it. No condition. -/
import Derived.KernelRfl
import Derived.Test.YtgecpcajmhgboaaLe
import Derived.Test.YtgecpcajmhgboaaSwords
set_option linter.unusedVariables false
set_option linter.unusedSimpArgs false
set_option autoImplicit false
namespace Go.Proofs.Ytgecpcajmhgboaa.M
open Go
/-! devices: what their fields hold -/
def secT : TY := .arr .u8 128
def secB (l : List PV) : Bool := l.all (TY.chk secT)
def sureB (kv : List (PV × PV)) : Bool := kv.all fun p => TY.chk (.sc .i) p.1 && TY.chk secT p.2
def wrB (l : List PV) : Bool := l.all (TY.chk (.st [.sc .i, secT]))
def devB (now : List PV) (sure : List (PV × PV)) (writes : List PV) : Bool := secB now && sureB sure && wrB writes
theorem devB_iff {now : List PV} {sure : List (PV × PV)} {writes : List PV} : devB now sure writes = true ↔ secB now = true ∧ sureB sure = true ∧ wrB writes = true := by
  unfold devB
  rw [Bool.and_eq_true, Bool.and_eq_true, and_assoc]
theorem sec_of {x : PV} (h : TY.chk secT x = true) : ∃ v, x = .arr .u8 128 v := ⟨_, (TY.chk_eta h).symm⟩
theorem int_of {x : PV} (h : TY.chk (.sc .i) x = true) : ∃ v, x = .sc .i v := ⟨_, (TY.chk_eta h).symm⟩
theorem wr_of {x : PV} (h : TY.chk (.st [.sc .i, secT]) x = true) : ∃ n v, x = .st [.sc .i n, .arr .u8 128 v] := ⟨_, _, (TY.chk_eta h).symm⟩
theorem flats_all : ∀ {l : List PV}, (∀ x ∈ l, x.flat = true) → PV.flats l = true
  | [], _ => rfl
  | x :: l, h => by rw [PV.flats, h x (by simp), flats_all fun y hy => h y (by simp [hy])]; rfl
theorem secB_flats {l : List PV} (h : secB l = true) : PV.flats l = true := flats_all fun x hx => by
  obtain ⟨v, rfl⟩ := sec_of (List.all_eq_true.1 h x hx)
  rfl
theorem wrB_flats {l : List PV} (h : wrB l = true) : PV.flats l = true := flats_all fun x hx => by
  obtain ⟨n, v, rfl⟩ := wr_of (List.all_eq_true.1 h x hx)
  rfl
theorem sureB_at {kv : List (PV × PV)} (h : sureB kv = true) {p : PV × PV} (hp : p ∈ kv) : ∃ n v, p = (.sc .i n, .arr .u8 128 v) := by
  have := List.all_eq_true.1 h p hp
  rw [Bool.and_eq_true] at this
  obtain ⟨n, h1⟩ := int_of this.1
  obtain ⟨v, h2⟩ := sec_of this.2
  exact ⟨n, v, by rw [← h1, ← h2]⟩
theorem sureB_flats {kv : List (PV × PV)} (h : sureB kv = true) : ((PV.flats (kv.map fun z => z.1)) && (PV.flats (kv.map fun z => z.2))) = true := by
  rw [Bool.and_eq_true]
  refine ⟨flats_all fun x hx => ?_, flats_all fun x hx => ?_⟩
  · obtain ⟨p, hp, rfl⟩ := List.mem_map.1 hx
    obtain ⟨n, v, rfl⟩ := sureB_at h hp
    rfl
  · obtain ⟨p, hp, rfl⟩ := List.mem_map.1 hx
    obtain ⟨n, v, rfl⟩ := sureB_at h hp
    rfl
theorem devB_flats {now : List PV} {sure : List (PV × PV)} {writes : List PV} (h : devB now sure writes = true) :
    ((PV.flats writes = true) ∧ (((PV.flats (sure.map fun z => z.1)) && (PV.flats (sure.map fun z => z.2))) = true)) ∧ (PV.flats now = true) := by
  obtain ⟨h1, h2, h3⟩ := devB_iff.1 h
  exact ⟨⟨wrB_flats h3, sureB_flats h2⟩, secB_flats h1⟩
/-- what was sure is remembered -/
def sureSet (kv : List (PV × PV)) (n : Int) (x : PV) : List (PV × PV) := bif (mget kv (.sc .i n)).isSome then kv else mset kv (.sc .i n) x
theorem sureB_allSc {kv : List (PV × PV)} (h : sureB kv = true) : allSc .i kv = true := List.all_eq_true.2 fun p hp => by
  obtain ⟨n, v, rfl⟩ := sureB_at h hp
  rfl
theorem mget_mem : ∀ {kv : List (PV × PV)} {q v : PV}, mget kv q = some v → ∃ p ∈ kv, p.2 = v
  | [], q, v, h => by cases h
  | p :: kv, q, v, h => by
    unfold mget at h
    cases hq : keyEq q p.1 with
    | true => rw [hq] at h; cases h; exact ⟨p, by simp, rfl⟩
    | false =>
      rw [hq] at h
      obtain ⟨p', h1, h2⟩ := mget_mem h
      exact ⟨p', by simp [h1], h2⟩
theorem mget_sec {kv : List (PV × PV)} (h : sureB kv = true) {q v : PV} (hv : mget kv q = some v) : TY.chk secT v = true := by
  obtain ⟨p, hp, rfl⟩ := mget_mem hv
  obtain ⟨n, v, rfl⟩ := sureB_at h hp
  rfl
theorem mset_sureB : ∀ {kv : List (PV × PV)} (n : Int) {x : PV}, sureB kv = true → TY.chk secT x = true → sureB (mset kv (.sc .i n) x) = true
  | [], n, x, _, hx => by
    show (TY.chk (.sc .i) (.sc .i n) && TY.chk secT x && true) = true
    rw [hx]; rfl
  | p :: kv, n, x, h, hx => by
    have h' := h
    rw [sureB, List.all_cons, Bool.and_eq_true] at h'
    unfold mset
    cases hq : keyEq (.sc .i n) p.1 with
    | true =>
      show ((TY.chk (.sc .i) (.sc .i n) && TY.chk secT x) && sureB kv) = true
      rw [hx, show sureB kv = true from h'.2]; rfl
    | false =>
      show ((TY.chk (.sc .i) p.1 && TY.chk secT p.2) && sureB (mset kv (.sc .i n) x)) = true
      rw [h'.1, mset_sureB n h'.2 hx]; rfl
theorem secB_set {l : List PV} (h : secB l = true) (i : Nat) {x : PV} (hx : TY.chk secT x = true) : secB (l.set i x) = true := List.all_eq_true.2 fun y hy => by
  rcases List.mem_or_eq_of_mem_set hy with h1 | h1
  · exact List.all_eq_true.1 h y h1
  · rw [h1]; exact hx
theorem secB_at {l : List PV} (h : secB l = true) {i : Nat} (hi : i < l.length) : TY.chk secT (l.getD i .nilp) = true := by
  rw [getD_lt _ _ _ hi]
  exact List.all_eq_true.1 h _ (List.getElem_mem hi)
/-- may a sector be asked for? -/
noncomputable def stateV (now : List PV) (dark : Bool) (n : Int) : Int := lock (if n < 0 ∨ ((now.length : Nat) : Int) ≤ n then 2 else bif dark then 12 else 0)
theorem stateV_eq (now : List PV) (dark : Bool) (n : Int) : stateV now dark n = if n < 0 ∨ ((now.length : Nat) : Int) ≤ n then 2 else bif dark then 12 else 0 := lock_eq _
end Go.Proofs.Ytgecpcajmhgboaa.M
