/- Part of the proofs: what functions of the program do: plain functions, and the walks that show it. No condition. -/
import Derived.KernelRfl
import Derived.Test.YtgecpcajmhgboaaLe
import Derived.Test.YtgecpcajmhgboaaSdevS
import Derived.Test.YtgecpcajmhgboaaSdevT
set_option linter.unusedVariables false
set_option linter.unusedSimpArgs false
set_option autoImplicit false
namespace Go.Proofs.Ytgecpcajmhgboaa.M
open Go
/-! devices, as the document tells them: what was sure, the writes behind it -/
abbrev Sec := Vector UInt8 128
structure AD where
  base : List Sec
  ws : List (Int × Sec)
  done : Int
  cut : Bool
  left : Int
  dark : Bool
def zsec : Sec := Vector.replicate 128 0
def sPV (v : Sec) : PV := .arr .u8 128 v
def wPV (p : Int × Sec) : PV := .st [.sc .i p.1, .arr .u8 128 p.2]
def secOf (x : PV) : Sec := PV.vecv .u8 128 x
def wrOf (x : PV) : Int × Sec := (PV.scv .i (x.fld 0), PV.vecv .u8 128 (x.fld 1))
theorem vecv_arr {n : Nat} (v : Vector UInt8 n) : PV.vecv .u8 n (.arr .u8 n v) = v := by simp [PV.vecv, castVec]
theorem secOf_sPV (v : Sec) : secOf (sPV v) = v := vecv_arr v
theorem wrOf_wPV (p : Int × Sec) : wrOf (wPV p) = p := by
  show (PV.scv .i (.sc .i p.1), PV.vecv .u8 128 (.arr .u8 128 p.2)) = p
  rw [vecv_arr]; rfl
def overW : List Sec → List (Int × Sec) → List Sec
  | b, [] => b
  | b, p :: r => overW (b.set p.1.toNat p.2) r
def sureW : List Sec → List (PV × PV) → List (Int × Sec) → List (PV × PV)
  | _, m, [] => m
  | b, m, p :: r => sureW (b.set p.1.toNat p.2) (sureSet m p.1 (sPV (b.getD p.1.toNat zsec))) r
namespace AD
def now (D : AD) : List Sec := bif D.dark then D.base else overW D.base D.ws
def pnow (D : AD) : List PV := D.now.map sPV
def pws (D : AD) : List PV := D.ws.map wPV
def psure (D : AD) : List (PV × PV) := bif D.dark then [] else sureW D.base [] D.ws
structure ok (D : AD) : Prop where
  ws : ∀ p ∈ D.ws, 0 ≤ p.1 ∧ p.1 < D.base.length
  len : D.base.length ≤ 16384
end AD
def adOf (now : List PV) (sure : List (PV × PV)) (writes : List PV) (done : Int) (cut : Bool) (left : Int) (dark : Bool) : AD := ⟨(backV now sure).map secOf, writes.map wrOf, done, cut, left, dark⟩
structure adC (now : List PV) (sure : List (PV × PV)) (writes : List PV) (done : Int) (cut : Bool) (left : Int) (dark : Bool) : Prop where
  ok : (adOf now sure writes done cut left dark).ok
  c_now : (adOf now sure writes done cut left dark).pnow = now
  c_sure : (adOf now sure writes done cut left dark).psure = sure
  c_ws : (adOf now sure writes done cut left dark).pws = writes
noncomputable instance adC_dec (now : List PV) (sure : List (PV × PV)) (writes : List PV) (done : Int) (cut : Bool) (left : Int) (dark : Bool) : Decidable (adC now sure writes done cut left dark) := Classical.propDecidable _

theorem overW_len : ∀ (ws : List (Int × Sec)) (b : List Sec), (overW b ws).length = b.length
  | [], b => rfl
  | p :: r, b => by rw [overW, overW_len r]; simp
theorem AD.now_len (D : AD) : D.now.length = D.base.length := by
  unfold AD.now
  cases D.dark
  · exact overW_len _ _
  · rfl
theorem overW_snoc (p : Int × Sec) : ∀ (ws : List (Int × Sec)) (b : List Sec), overW b (ws ++ [p]) = (overW b ws).set p.1.toNat p.2
  | [], b => rfl
  | q :: r, b => overW_snoc p r _
theorem sureW_snoc (p : Int × Sec) : ∀ (ws : List (Int × Sec)) (b : List Sec) (m : List (PV × PV)), sureW b m (ws ++ [p]) = sureSet (sureW b m ws) p.1 (sPV ((overW b ws).getD p.1.toNat zsec))
  | [], b, m => rfl
  | q :: r, b, m => sureW_snoc p r _ _
theorem mget_mset_eq : ∀ (kv : List (PV × PV)) (n : Int) (v : PV), mget (mset kv (.sc .i n) v) (.sc .i n) = some v
  | [], n, v => by
    unfold mset mget
    rw [keyEq_int.2 rfl]; rfl
  | p :: r, n, v => by
    unfold mset
    cases h : keyEq (.sc .i n) p.1 with
    | true =>
      show mget ((.sc .i n, v) :: r) _ = _
      unfold mget
      rw [keyEq_int.2 rfl]; rfl
    | false =>
      show mget (p :: mset r (.sc .i n) v) _ = _
      unfold mget
      rw [h]
      exact mget_mset_eq r n v
theorem mget_mset_ne {i n : Int} (hi : i ≠ n) : ∀ (kv : List (PV × PV)) (v : PV), (∀ p ∈ kv, ∃ k : Int, p.1 = .sc .i k) → mget (mset kv (.sc .i n) v) (.sc .i i) = mget kv (.sc .i i)
  | [], v, _ => by
    unfold mset mget
    have : keyEq (.sc .i i) (.sc .i n) = false := by rw [Bool.eq_false_iff]; exact fun h => hi (keyEq_int.1 h)
    rw [this]; rfl
  | p :: r, v, hk => by
    obtain ⟨k, hp⟩ := hk p (by simp)
    unfold mset
    cases h : keyEq (.sc .i n) p.1 with
    | true =>
      rw [hp] at h
      have := keyEq_int.1 h
      subst this
      show mget ((.sc .i n, v) :: r) _ = _
      have e : keyEq (.sc .i i) (.sc .i n) = false := by rw [Bool.eq_false_iff]; exact fun h => hi (keyEq_int.1 h)
      unfold mget
      rw [hp, e]
      rfl
    | false =>
      show mget (p :: mset r (.sc .i n) v) _ = mget (p :: r) _
      unfold mget
      rw [mget_mset_ne hi r v fun q hq => hk q (by simp [hq])]
theorem mset_keys : ∀ (kv : List (PV × PV)) (q v : PV), mget kv q = none → (mset kv q v) = kv ++ [(q, v)]
  | [], q, v, _ => rfl
  | p :: r, q, v, h => by
    unfold mget at h
    unfold mset
    cases hq : keyEq q p.1 with
    | true => rw [hq] at h; cases h
    | false =>
      rw [hq] at h
      show p :: mset r q v = _
      rw [mset_keys r q v h]; rfl
/-- what stands in the map -/
structure SInv (base now : List Sec) (m : List (PV × PV)) : Prop where
  len : now.length = base.length
  ks : KeysOK base.length m
  at_ : ∀ i, i < base.length → mget m (.sc .i (i : Int)) = some (sPV (base.getD i zsec)) ∨ (mget m (.sc .i (i : Int)) = none ∧ now.getD i zsec = base.getD i zsec)
  b : sureB m = true
theorem SInv.start (base : List Sec) : SInv base base [] := ⟨rfl, .nil, fun i _ => .inr ⟨rfl, rfl⟩, rfl⟩
theorem getD_lset {α : Type} (l : List α) (i j : Nat) (x d : α) : (l.set i x).getD j d = if i = j ∧ j < l.length then x else l.getD j d := by
  simp only [List.getD, List.getElem?_set]
  by_cases h : i = j
  · subst h
    by_cases h2 : i < l.length
    · simp [h2]
    · rw [if_pos rfl, if_neg h2, if_neg (fun q => h2 q.2)]
      simp [List.getElem?_eq_none (Nat.le_of_not_lt h2)]
  · rw [if_neg h, if_neg (fun q => h q.1)]
theorem sureSet_none {m : List (PV × PV)} {n : Int} {x : PV} (h : mget m (.sc .i n) = none) : sureSet m n x = mset m (.sc .i n) x := by unfold sureSet; rw [h]; rfl
theorem sureSet_some {m : List (PV × PV)} {n : Int} {x v : PV} (h : mget m (.sc .i n) = some v) : sureSet m n x = m := by unfold sureSet; rw [h]; rfl
theorem chk_sPV (v : Sec) : TY.chk secT (sPV v) = true := rfl
theorem SInv.step {base now : List Sec} {m : List (PV × PV)} (I : SInv base now m) {n : Int} {v : Sec} (h0 : 0 ≤ n) (h1 : n < base.length) : SInv base (now.set n.toNat v) (sureSet m n (sPV (now.getD n.toNat zsec))) := by
  have hn : ((n.toNat : Nat) : Int) = n := Int.toNat_of_nonneg h0
  have hlt : n.toNat < base.length := by omega
  have hkey : ∀ p ∈ m, ∃ k : Int, p.1 = .sc .i k := fun p hp => by obtain ⟨k, h, _⟩ := I.ks.lt p hp; exact ⟨k, h⟩
  have hat := I.at_ n.toNat hlt
  rw [hn] at hat
  rcases hat with hat | ⟨hat, hat2⟩
  · rw [sureSet_some hat]
    refine ⟨by rw [List.length_set, I.len], I.ks, fun i hi => ?_, I.b⟩
    rcases I.at_ i hi with q | ⟨q1, q2⟩
    · exact .inl q
    · refine .inr ⟨q1, ?_⟩
      have hne : n.toNat ≠ i := by
        intro e
        subst e
        rw [hn, hat] at q1
        cases q1
      rw [getD_lset, if_neg (fun q => hne q.1)]
      exact q2
  · rw [sureSet_none hat]
    refine ⟨by rw [List.length_set, I.len], ?_, fun i hi => ?_, mset_sureB n I.b (chk_sPV _)⟩
    · rw [mset_keys _ _ _ hat]
      refine ⟨fun p hp => ?_, ?_⟩
      · rcases List.mem_append.1 hp with hp | hp
        · exact I.ks.lt p hp
        · have : p = (.sc .i n, sPV (now.getD n.toNat zsec)) := by simpa using hp
          subst this
          exact ⟨n, rfl, h0, h1⟩
      · rw [List.map_append, List.nodup_append]
        refine ⟨I.ks.nd, by simp, fun a ha b hb hab => ?_⟩
        obtain ⟨p, hp, rfl⟩ := List.mem_map.1 ha
        have : b = .sc .i n := by simpa using hb
        subst this
        have := mget_of I.ks hp
        rw [hab, hat] at this
        cases this
    · by_cases e : n.toNat = i
      · subst e
        rw [hn]
        exact .inl (by rw [mget_mset_eq, hat2])
      · have hin : (i : Int) ≠ n := by omega
        rw [mget_mset_ne hin _ _ hkey]
        rcases I.at_ i hi with q | ⟨q1, q2⟩
        · exact .inl q
        · exact .inr ⟨q1, by rw [getD_lset, if_neg (fun q => e q.1)]; exact q2⟩
theorem SInv.run {base : List Sec} : ∀ (ws : List (Int × Sec)) {now : List Sec} {m : List (PV × PV)}, SInv base now m → (∀ p ∈ ws, 0 ≤ p.1 ∧ p.1 < base.length) → SInv base (overW now ws) (sureW now m ws)
  | [], _, _, I, _ => I
  | p :: r, now, m, I, h => SInv.run r (I.step (h p (by simp)).1 (h p (by simp)).2) fun q hq => h q (by simp [hq])
theorem AD.inv {D : AD} (h : D.ok) : SInv D.base D.now D.psure := by
  unfold AD.now AD.psure
  cases D.dark
  · exact (SInv.start D.base).run D.ws h.ws
  · exact SInv.start D.base
theorem map_getD {α β : Type} (f : α → β) (l : List α) (i : Nat) (d : α) (d' : β) (h : i < l.length) : (l.map f).getD i d' = f (l.getD i d) := by
  rw [getD_lt _ _ _ (by simpa using h), getD_lt _ _ _ h, List.getElem_map]
theorem SInv.back {base now : List Sec} {m : List (PV × PV)} (I : SInv base now m) : backV (now.map sPV) m = base.map sPV := by
  refine List.ext_getElem (by rw [backV_len, List.length_map, List.length_map, I.len]) fun i h1 h2 => ?_
  have hi : i < base.length := by simpa using h2
  have hi' : i < (now.map sPV).length := by rw [List.length_map, I.len]; exact hi
  rw [← getD_lt _ _ .nilp h1, ← getD_lt _ _ .nilp h2, backV_at _ _ hi', map_getD sPV base i zsec _ hi]
  rcases I.at_ i hi with q | ⟨q1, q2⟩
  · rw [q]; rfl
  · rw [q1, map_getD sPV now i zsec _ (by rw [I.len]; exact hi), q2]; rfl
theorem AD.back {D : AD} (h : D.ok) : backV D.pnow D.psure = D.base.map sPV := (AD.inv h).back
theorem map_secOf (l : List Sec) : (l.map sPV).map secOf = l := by
  rw [List.map_map]
  conv => rhs; rw [← List.map_id l]
  exact List.map_congr_left fun v _ => secOf_sPV v
theorem map_wrOf (l : List (Int × Sec)) : (l.map wPV).map wrOf = l := by
  rw [List.map_map]
  conv => rhs; rw [← List.map_id l]
  exact List.map_congr_left fun v _ => wrOf_wPV v
/-- what is read off is what was laid -/
theorem adOf_eq {D : AD} (h : D.ok) : adOf D.pnow D.psure D.pws D.done D.cut D.left D.dark = D := by
  unfold adOf
  rw [AD.back h, map_secOf]
  show AD.mk D.base ((D.ws.map wPV).map wrOf) D.done D.cut D.left D.dark = D
  rw [map_wrOf]
theorem AD.c {D : AD} (h : D.ok) : adC D.pnow D.psure D.pws D.done D.cut D.left D.dark := by
  have e := adOf_eq h
  exact ⟨by rw [e]; exact h, by rw [e], by rw [e], by rw [e]⟩
theorem AD.devC {D : AD} (h : D.ok) : devC D.pnow D.psure D.pws := by
  have I := AD.inv h
  have hl : D.pnow.length = D.base.length := by show (D.now.map sPV).length = _; rw [List.length_map, AD.now_len]
  refine ⟨devB_iff.2 ⟨List.all_eq_true.2 fun x hx => ?_, I.b, List.all_eq_true.2 fun x hx => ?_⟩, by rw [hl]; exact I.ks, fun x hx => ?_⟩
  · obtain ⟨v, _, rfl⟩ := List.mem_map.1 hx; rfl
  · obtain ⟨v, _, rfl⟩ := List.mem_map.1 hx; rfl
  · obtain ⟨p, hp, rfl⟩ := List.mem_map.1 hx
    exact ⟨p.1, .arr .u8 128 p.2, rfl, (h.ws p hp).1, by rw [hl]; exact (h.ws p hp).2⟩
theorem adC.get {now : List PV} {sure : List (PV × PV)} {writes : List PV} {done : Int} {cut : Bool} {left : Int} {dark : Bool} (h : adC now sure writes done cut left dark) :
    ∃ D : AD, D.ok ∧ now = D.pnow ∧ sure = D.psure ∧ writes = D.pws ∧ done = D.done ∧ cut = D.cut ∧ left = D.left ∧ dark = D.dark := ⟨_, h.ok, h.c_now.symm, h.c_sure.symm, h.c_ws.symm, rfl, rfl, rfl, rfl⟩
/-! what is done to a device -/
def AD.stateE (D : AD) (n : Int) : Int := if n < 0 ∨ ((D.base.length : Nat) : Int) ≤ n then 2 else bif D.dark then 12 else 0
def secL (b : List UInt8) : Sec := Vector.ofFn fun i => b.getD i.val 0
def AD.lost (D : AD) : AD := { D with dark := true }
def AD.put (D : AD) (n : Int) (v : Sec) : AD := { D with ws := D.ws ++ [(n, v)], done := w64 (D.done + 1), left := w64 (D.left - 1) }
noncomputable def adWrite (D : AD) (n : Int) (b : List UInt8) : Int × AD := lock (
  if b.length ≠ 128 then (2, D) else if D.stateE n ≠ 0 then (D.stateE n, D) else if D.cut = true ∧ D.left = 0 then (12, D.lost) else (0, D.put n (secL b)))
theorem adWrite_eq (D : AD) (n : Int) (b : List UInt8) : adWrite D n b = if b.length ≠ 128 then (2, D) else if D.stateE n ≠ 0 then (D.stateE n, D) else if D.cut = true ∧ D.left = 0 then (12, D.lost) else (0, D.put n (secL b)) := lock_eq _
def tornV (old new : Sec) (t : Int) : Sec := Vector.ofFn fun i => if ((i.val : Nat) : Int) < t then new[i] else old[i]
def keptW : List Sec → List (Int × Sec) → Nat → Int → List Sec
  | b, [], _, _ => b
  | b, p :: _, 0, t => b.set p.1.toNat (tornV (b.getD p.1.toNat zsec) p.2 t)
  | b, p :: r, k + 1, t => keptW (b.set p.1.toNat p.2) r k t
noncomputable def adOn (D : AD) (keep torn : Int) : Int × AD := lock (if keep < 0 ∨ torn < 0 then (2, D) else (0, { base := keptW D.base D.ws keep.toNat torn, ws := [], done := D.done, cut := false, left := 0, dark := false }))
theorem adOn_eq (D : AD) (keep torn : Int) : adOn D keep torn = if keep < 0 ∨ torn < 0 then (2, D) else (0, { base := keptW D.base D.ws keep.toNat torn, ws := [], done := D.done, cut := false, left := 0, dark := false }) := lock_eq _
noncomputable def adRead (D : AD) (n : Int) : List UInt8 × Int := lock (if D.stateE n = 0 then ((D.now.getD n.toNat zsec).toList, 0) else ([], D.stateE n))
theorem adRead_eq (D : AD) (n : Int) : adRead D n = if D.stateE n = 0 then ((D.now.getD n.toNat zsec).toList, 0) else ([], D.stateE n) := lock_eq _
theorem AD.state0 {D : AD} {n : Int} (h : D.stateE n = 0) : 0 ≤ n ∧ n < D.base.length ∧ D.dark = false := by
  unfold AD.stateE at h
  split at h
  · cases h
  · cases hd : D.dark with
    | false => exact ⟨by omega, by omega, rfl⟩
    | true => rw [hd] at h; cases h
theorem AD.lost_ok {D : AD} (h : D.ok) : D.lost.ok := ⟨h.ws, h.len⟩
theorem AD.put_ok {D : AD} (h : D.ok) {n : Int} (v : Sec) (h0 : 0 ≤ n) (h1 : n < D.base.length) : (D.put n v).ok := by
  refine ⟨fun p hp => ?_, h.len⟩
  rcases List.mem_append.1 hp with hp | hp
  · exact h.ws p hp
  · have : p = (n, v) := by simpa using hp
    subst this
    exact ⟨h0, h1⟩
theorem adWrite_ok {D : AD} (h : D.ok) (n : Int) (b : List UInt8) : (adWrite D n b).2.ok := by
  rw [adWrite_eq]
  split
  · exact h
  · split
    · exact h
    · rename_i h2
      have h2 : D.stateE n = 0 := Decidable.not_not.1 h2
      obtain ⟨q1, q2, _⟩ := AD.state0 h2
      split
      · exact AD.lost_ok h
      · exact AD.put_ok h _ q1 q2
theorem keptW_len : ∀ (ws : List (Int × Sec)) (b : List Sec) (k : Nat) (t : Int), (keptW b ws k t).length = b.length
  | [], b, _, _ => by simp [keptW]
  | p :: r, b, 0, t => by simp [keptW]
  | p :: r, b, k + 1, t => by rw [keptW, keptW_len r]; simp
theorem adOn_ok {D : AD} (h : D.ok) (k t : Int) : (adOn D k t).2.ok := by
  rw [adOn_eq]
  split
  · exact h
  · exact ⟨fun p hp => (by cases hp), by show (keptW _ _ _ _).length ≤ _; rw [keptW_len]; exact h.len⟩
theorem AD.pnow_len (D : AD) : D.pnow.length = D.base.length := by show (D.now.map sPV).length = _; rw [List.length_map, AD.now_len]
theorem AD.state_eq (D : AD) (n : Int) : stateV D.pnow D.dark n = D.stateE n := by rw [stateV_eq, AD.pnow_len]; rfl
theorem arr_secL (b : List UInt8) : RC.arr 0 128 (RC.s EK.u8 b) = sPV (secL b) := by
  show PV.arr .u8 128 (Vector.ofFn fun i : Fin 128 => b.getD (0 + i.val) (0 : UInt8)) = _
  unfold sPV secL
  congr 2
  funext i
  rw [Nat.zero_add]
theorem vec_secL (b : List UInt8) : (Vector.ofFn fun (i : Fin 128) => List.getD b (0 + i.val) (0 : UInt8)) = secL b := by
  unfold secL
  congr 1
  funext i
  rw [Nat.zero_add]
theorem AD.put_pnow {D : AD} (hd : D.dark = false) (n : Int) (v : Sec) : (D.put n v).pnow = D.pnow.set n.toNat (sPV v) := by
  unfold AD.pnow AD.now AD.put
  simp only [hd, cond_false]
  rw [overW_snoc, List.map_set]
theorem AD.put_psure {D : AD} (hd : D.dark = false) {n : Int} (h1 : n.toNat < D.base.length) (v : Sec) : (D.put n v).psure = sureSet D.psure n (D.pnow.getD n.toNat .nilp) := by
  have : D.pnow.getD n.toNat .nilp = sPV (D.now.getD n.toNat zsec) := map_getD sPV D.now n.toNat zsec .nilp (by rw [AD.now_len]; exact h1)
  rw [this]
  unfold AD.psure AD.now AD.put
  simp only [hd, cond_false]
  exact sureW_snoc _ _ _ _
theorem AD.put_pws (D : AD) (n : Int) (v : Sec) : (D.put n v).pws = D.pws ++ [wPV (n, v)] := by
  unfold AD.pws AD.put
  rw [List.map_append]; rfl
end Go.Proofs.Ytgecpcajmhgboaa.M
