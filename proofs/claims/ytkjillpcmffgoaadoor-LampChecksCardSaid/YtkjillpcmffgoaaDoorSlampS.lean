/- Part of the proofs: what functions of the program do: plain functions, and the walks that show it. No condition. -/
import Derived.KernelRfl
import Derived.Test.YtkjillpcmffgoaaDoorLe
import Derived.Test.YtkjillpcmffgoaaDoorSshaS
import Derived.Test.YtkjillpcmffgoaaDoorSmerS
import Derived.Test.YtkjillpcmffgoaaDoorSwords
import Derived.Test.YtkjillpcmffgoaaDoorSshaE
set_option linter.unusedVariables false
set_option linter.unusedSimpArgs false
set_option autoImplicit false
namespace Go.Proofs.YtkjillpcmffgoaaDoor.M
open Go
/-- a secret -/
noncomputable def secV (seed : Vector UInt8 32) (k v : UInt8) : Vector UInt8 32 := lock (shaSum (Vector.toList seed ++ [k, v]))
theorem secV_eq (seed : Vector UInt8 32) (k v : UInt8) : secV seed k v = shaSum (Vector.toList seed ++ [k, v]) := lock_eq _
/-- the pairs of secrets -/
noncomputable def secP (seed : Vector UInt8 32) (k : Nat) : UInt8 × Vector UInt8 32 × Vector UInt8 32 := (UInt8.ofNat k, secV seed (UInt8.ofNat k) 0, secV seed (UInt8.ofNat k) 1)
noncomputable def secL (seed : Vector UInt8 32) : List (UInt8 × Vector UInt8 32 × Vector UInt8 32) := (List.range 32).map (secP seed)
/-- a bit of a digest -/
noncomputable def bitV (d : Vector UInt8 32) (k : UInt8) : UInt8 := lock (shr_u8 (d.toList.getD ((k % 32) / 8).toNat 0) ((k % 32) % 8).toNat &&& 1)
theorem bitV_eq (d : Vector UInt8 32) (k : UInt8) : bitV d k = (shr_u8 (d.toList.getD ((k % 32) / 8).toNat 0) ((k % 32) % 8).toNat &&& 1) := lock_eq _
/-- the hash of a hash -/
noncomputable def hhL (v : Vector UInt8 32) : List UInt8 := lock (shaSum v.toList).toList
theorem hhL_eq (v : Vector UInt8 32) : hhL v = (shaSum v.toList).toList := lock_eq _
theorem hhL_len (v : Vector UInt8 32) : (hhL v).length = 32 := by rw [hhL_eq]; simp
/-- what is hashed to a key -/
noncomputable def keyB (l : List (UInt8 × Vector UInt8 32 × Vector UInt8 32)) : List UInt8 := l.flatMap fun x => hhL x.2.1 ++ hhL x.2.2
noncomputable def keyV (seed : Vector UInt8 32) : Vector UInt8 32 := lock (shaSum (keyB (secL seed)))
theorem keyV_eq (seed : Vector UInt8 32) : keyV seed = shaSum (keyB (secL seed)) := lock_eq _
/-- one of two -/
def pickV (v : UInt8) (p q : Vector UInt8 32) : Vector UInt8 32 := if v = 0 then p else q
noncomputable def sigB (d : Vector UInt8 32) (l : List (UInt8 × Vector UInt8 32 × Vector UInt8 32)) : List UInt8 := l.flatMap fun x => (pickV (bitV d x.1) x.2.1 x.2.2).toList ++ hhL (pickV (1 - bitV d x.1) x.2.1 x.2.2)
noncomputable def sigL (seed d : Vector UInt8 32) : List UInt8 := lock (sigB d (secL seed))
theorem sigL_eq (seed d : Vector UInt8 32) : sigL seed d = sigB d (secL seed) := lock_eq _
theorem u8_and1 (x : UInt8) : x &&& 1 = 0 ∨ x &&& 1 = 1 := by
  have h : (x &&& 1).toNat = x.toNat % 2 := by
    rw [UInt8.toNat_and]
    exact Nat.and_one_is_mod _
  rcases Nat.mod_two_eq_zero_or_one x.toNat with e | e
  · exact .inl (UInt8.toNat_inj.1 (by rw [h, e]; rfl))
  · exact .inr (UInt8.toNat_inj.1 (by rw [h, e]; rfl))
theorem bitV_01 (d : Vector UInt8 32) (k : UInt8) : bitV d k = 0 ∨ bitV d k = 1 := by rw [bitV_eq]; exact u8_and1 _
theorem secL_length (seed : Vector UInt8 32) : (secL seed).length = 32 := by simp [secL]
theorem keyB_len : ∀ l : List (UInt8 × Vector UInt8 32 × Vector UInt8 32), (keyB l).length = 64 * l.length
  | [] => rfl
  | x :: l => by rw [keyB, List.flatMap_cons, List.length_append, ← keyB, keyB_len l, List.length_append, hhL_len, hhL_len, List.length_cons]; omega
theorem sigB_len (d : Vector UInt8 32) : ∀ l : List (UInt8 × Vector UInt8 32 × Vector UInt8 32), (sigB d l).length = 64 * l.length
  | [] => rfl
  | x :: l => by rw [sigB, List.flatMap_cons, List.length_append, ← sigB, sigB_len d l, List.length_append, hhL_len, Vector.length_toList, List.length_cons]; omega
theorem sigL_len (seed d : Vector UInt8 32) : (sigL seed d).length = 2048 := by rw [sigL_eq, sigB_len, secL_length]
theorem keyB_cons (x : UInt8 × Vector UInt8 32 × Vector UInt8 32) (l : List (UInt8 × Vector UInt8 32 × Vector UInt8 32)) : keyB (x :: l) = hhL x.2.1 ++ hhL x.2.2 ++ keyB l := by rw [keyB, List.flatMap_cons, ← keyB]
theorem sigB_cons (d : Vector UInt8 32) (x : UInt8 × Vector UInt8 32 × Vector UInt8 32) (l : List (UInt8 × Vector UInt8 32 × Vector UInt8 32)) : sigB d (x :: l) = (pickV (bitV d x.1) x.2.1 x.2.2).toList ++ hhL (pickV (1 - bitV d x.1) x.2.1 x.2.2) ++ sigB d l := by rw [sigB, List.flatMap_cons, ← sigB]
theorem keyB_nil : keyB [] = [] := rfl
theorem sigB_nil (d : Vector UInt8 32) : sigB d [] = [] := rfl
theorem td32 (v : Vector UInt8 32) : List.take ((Int.toNat (32 : Int)) - (Int.toNat (0 : Int))) (List.drop (Int.toNat (0 : Int)) (Vector.toList v)) = v.toList := by
  show List.take 32 (List.drop 0 v.toList) = v.toList
  rw [List.drop_zero, List.take_of_length_le (by simp)]
theorem vec0 (p q : Vector UInt8 32) : PV.vecv .u8 32 (List.getD [PV.arr .u8 32 p, PV.arr .u8 32 q] 0 .nilp) = p := rfl
theorem vec1 (p q : Vector UInt8 32) : PV.vecv .u8 32 (List.getD [PV.arr .u8 32 p, PV.arr .u8 32 q] 1 .nilp) = q := rfl
/-! what a signature opens -/
theorem Ev.rise {R σ : Type} {H : Nat → Int → σ → Option R} {n : Nat} {r : R} (f : Nat → σ)
    (step : ∀ i : Nat, i < n → Ev (fun k => H k ((i : Int) + 1) (f (i + 1))) r → Ev (fun k => H k (i : Int) (f i)) r)
    (done : Ev (fun k => H k (n : Int) (f n)) r) : ∀ (m i : Nat), i + m = n → Ev (fun k => H k (i : Int) (f i)) r
  | 0, i, hi => by
    have : i = n := by omega
    subst this
    exact done
  | m + 1, i, hi => step i (by omega) (by
      have := Ev.rise f step done m (i + 1) (by omega)
      rwa [Int.natCast_add] at this)
def partL (sig : List UInt8) (k : Nat) : List UInt8 := (sig.drop (64 * k)).take 64
theorem partL_len {sig : List UInt8} (h : sig.length = 2048) {k : Nat} (hk : k < 32) : (partL sig k).length = 64 := by
  unfold partL
  rw [List.length_take, List.length_drop]
  omega
noncomputable def hL (b : List UInt8) : List UInt8 := lock (shaSum b).toList
theorem hL_eq (b : List UInt8) : hL b = (shaSum b).toList := lock_eq _
theorem hL_len (b : List UInt8) : (hL b).length = 32 := by rw [hL_eq]; exact Vector.length_toList
theorem hhL_hL (v : Vector UInt8 32) : hhL v = hL v.toList := by rw [hhL_eq, hL_eq]
/-- a pair of hashes, of what is opened and what is not -/
noncomputable def pairB (d : Vector UInt8 32) (sig : List UInt8) (k : Nat) : List UInt8 :=
  if bitV d (UInt8.ofNat k) = 0 then hL ((partL sig k).take 32) ++ (partL sig k).drop 32 else (partL sig k).drop 32 ++ hL ((partL sig k).take 32)
noncomputable def chkB (d : Vector UInt8 32) (sig : List UInt8) : Nat → List UInt8
  | 0 => []
  | n + 1 => chkB d sig n ++ pairB d sig n
theorem pairB_len {d : Vector UInt8 32} {sig : List UInt8} (h : sig.length = 2048) {k : Nat} (hk : k < 32) : (pairB d sig k).length = 64 := by
  have := partL_len h hk
  unfold pairB
  split <;> rw [List.length_append, hL_len, List.length_drop, this]
theorem chkB_len {d : Vector UInt8 32} {sig : List UInt8} (h : sig.length = 2048) : ∀ {k : Nat}, k ≤ 32 → (chkB d sig k).length = 64 * k
  | 0, _ => rfl
  | k + 1, hk => by rw [chkB, List.length_append, chkB_len h (by omega), pairB_len h (by omega)]; omega
noncomputable def checkV (key d : Vector UInt8 32) (sig : List UInt8) : Int := lock (if sig.length = 2048 then (if shaSum (chkB d sig 32) = key then 0 else 5) else 5)
theorem checkV_eq (key d : Vector UInt8 32) (sig : List UInt8) : checkV key d sig = if sig.length = 2048 then (if shaSum (chkB d sig 32) = key then 0 else 5) else 5 := lock_eq _
def hash32 (b : List UInt8) : Vector UInt8 32 := Vector.ofFn fun i : Fin 32 => b.getD i.val 0
theorem hash32_eq {b : List UInt8} (h : b.length = 32) : (hash32 b).toList = b := by
  apply List.ext_getElem
  · rw [Vector.length_toList, h]
  · intro i h1 h2
    simp [hash32, List.getD, h2]
def openH (sig : List UInt8) : Nat → List (Vector UInt8 32)
  | 0 => []
  | n + 1 => openH sig n ++ [hash32 ((partL sig n).take 32)]
theorem openH_len (sig : List UInt8) : ∀ n, (openH sig n).length = n
  | 0 => rfl
  | n + 1 => by rw [openH, List.length_append, openH_len sig n]; rfl
noncomputable def openPV (sig : List UInt8) : List PV := lock (if sig.length = 2048 then hArrs (openH sig 32) else [])
theorem openPV_eq (sig : List UInt8) : openPV sig = if sig.length = 2048 then hArrs (openH sig 32) else [] := lock_eq _
noncomputable def openE (sig : List UInt8) : Int := lock (if sig.length = 2048 then 0 else 5)
theorem openE_eq (sig : List UInt8) : openE sig = if sig.length = 2048 then 0 else 5 := lock_eq _
theorem u8_ofInt (k : Nat) : UInt8.ofInt ((k : Nat) : Int) = UInt8.ofNat k := by
  rw [show UInt8.ofInt ((k : Nat) : Int) = UInt8.ofNat (((k : Nat) : Int) % 2 ^ 8).toNat from rfl]
  apply UInt8.toNat_inj.1
  rw [UInt8.toNat_ofNat', UInt8.toNat_ofNat']
  omega
theorem secL_take (seed : Vector UInt8 32) {k : Nat} (h : k < 32) : (secL seed).take (k + 1) = (secL seed).take k ++ [secP seed k] := by
  rw [List.take_succ_eq_append_getElem (by rw [secL_length]; exact h)]
  congr 1
  simp [secL]
theorem keyB_app (a b : List (UInt8 × Vector UInt8 32 × Vector UInt8 32)) : keyB (a ++ b) = keyB a ++ keyB b := by rw [keyB, List.flatMap_append]; rfl
theorem sigB_app (d : Vector UInt8 32) (a b : List (UInt8 × Vector UInt8 32 × Vector UInt8 32)) : sigB d (a ++ b) = sigB d a ++ sigB d b := by rw [sigB, List.flatMap_append]; rfl
noncomputable def keyU (seed : Vector UInt8 32) (k : Nat) : List UInt8 := keyB ((secL seed).take k)
noncomputable def sigU (seed d : Vector UInt8 32) (k : Nat) : List UInt8 := sigB d ((secL seed).take k)
theorem keyU_0 (seed : Vector UInt8 32) : keyU seed 0 = [] := rfl
theorem sigU_0 (seed d : Vector UInt8 32) : sigU seed d 0 = [] := rfl
theorem keyU_step (seed : Vector UInt8 32) {k : Nat} (h : k < 32) : keyU seed (k + 1) = keyU seed k ++ hhL (secV seed (UInt8.ofNat k) 0) ++ hhL (secV seed (UInt8.ofNat k) 1) := by
  rw [keyU, secL_take seed h, keyB_app, keyB_cons, keyB_nil, List.append_nil, ← List.append_assoc]
  rfl
theorem sigU_step (seed d : Vector UInt8 32) {k : Nat} (h : k < 32) : sigU seed d (k + 1) = sigU seed d k ++ (secV seed (UInt8.ofNat k) (bitV d (UInt8.ofNat k))).toList ++ hhL (secV seed (UInt8.ofNat k) (1 - bitV d (UInt8.ofNat k))) := by
  rw [sigU, secL_take seed h, sigB_app, sigB_cons, sigB_nil, List.append_nil, ← List.append_assoc, sigU]
  show _ ++ (pickV (bitV d (UInt8.ofNat k)) (secV seed (UInt8.ofNat k) 0) (secV seed (UInt8.ofNat k) 1)).toList ++ hhL (pickV (1 - bitV d (UInt8.ofNat k)) (secV seed (UInt8.ofNat k) 0) (secV seed (UInt8.ofNat k) 1)) = _
  rcases bitV_01 d (UInt8.ofNat k) with e | e <;> rw [e] <;> rfl
theorem keyU_done (seed : Vector UInt8 32) : keyU seed 32 = keyB (secL seed) := by rw [keyU, List.take_of_length_le (by rw [secL_length]; decide)]
theorem sigU_done (seed d : Vector UInt8 32) : sigU seed d 32 = sigL seed d := by rw [sigU, List.take_of_length_le (by rw [secL_length]; decide), sigL_eq]
theorem keyU_len (seed : Vector UInt8 32) {k : Nat} (h : k ≤ 32) : (keyU seed k).length = 64 * k := by rw [keyU, keyB_len, List.length_take, secL_length, Nat.min_eq_left h]
theorem sigU_len (seed d : Vector UInt8 32) {k : Nat} (h : k ≤ 32) : (sigU seed d k).length = 64 * k := by rw [sigU, sigB_len, List.length_take, secL_length, Nat.min_eq_left h]
end Go.Proofs.YtkjillpcmffgoaaDoor.M

namespace Go.Proofs.YtkjillpcmffgoaaDoor.M
open Go
/-! signatures, checked -/
noncomputable def segB (seed d : Vector UInt8 32) (k : Nat) : List UInt8 := (secV seed (UInt8.ofNat k) (bitV d (UInt8.ofNat k))).toList ++ hhL (secV seed (UInt8.ofNat k) (1 - bitV d (UInt8.ofNat k)))
theorem segB_len (seed d : Vector UInt8 32) (k : Nat) : (segB seed d k).length = 64 := by rw [segB, List.length_append, hhL_len, Vector.length_toList]
theorem sigU_seg (seed d : Vector UInt8 32) {k : Nat} (h : k < 32) : sigU seed d (k + 1) = sigU seed d k ++ segB seed d k := by rw [sigU_step seed d h, segB, List.append_assoc]
theorem sigU_part (seed d : Vector UInt8 32) {k : Nat} : ∀ n, n ≤ 32 → k < n → ((sigU seed d n).drop (64 * k)).take 64 = segB seed d k
  | 0, _, h => by omega
  | n + 1, hn, h => by
    have hl := sigU_len seed d (k := n) (by omega)
    rw [sigU_seg seed d (by omega)]
    by_cases e : k = n
    · subst e
      rw [List.drop_left' hl]
      exact List.take_of_length_le (by rw [segB_len]; exact Nat.le_refl _)
    · rw [List.drop_append_of_le_length (by omega), List.take_append_of_le_length (by rw [List.length_drop]; omega)]
      exact sigU_part seed d n (by omega) (by omega)
theorem sig_part (seed d : Vector UInt8 32) {k : Nat} (h : k < 32) : partL (sigL seed d) k = segB seed d k := by
  rw [partL, ← sigU_done]
  exact sigU_part seed d 32 (Nat.le_refl _) h
theorem pairB_sig (seed d d' : Vector UInt8 32) {k : Nat} (h : k < 32) : pairB d' (sigL seed d) k =
    if bitV d' (UInt8.ofNat k) = 0 then hhL (secV seed (UInt8.ofNat k) (bitV d (UInt8.ofNat k))) ++ hhL (secV seed (UInt8.ofNat k) (1 - bitV d (UInt8.ofNat k)))
    else hhL (secV seed (UInt8.ofNat k) (1 - bitV d (UInt8.ofNat k))) ++ hhL (secV seed (UInt8.ofNat k) (bitV d (UInt8.ofNat k))) := by
  unfold pairB
  rw [sig_part seed d h, segB, List.take_left' Vector.length_toList, List.drop_left' Vector.length_toList, ← hhL_hL]
theorem chk_back (seed d d' : Vector UInt8 32) (hb : ∀ k, k < 32 → bitV d' (UInt8.ofNat k) = bitV d (UInt8.ofNat k)) : ∀ n, n ≤ 32 → chkB d' (sigL seed d) n = keyU seed n
  | 0, _ => rfl
  | n + 1, hn => by
    rw [chkB, chk_back seed d d' hb n (by omega), keyU_step seed (by omega), pairB_sig seed d d' (by omega), hb n (by omega), List.append_assoc]
    rcases bitV_01 d (UInt8.ofNat n) with e | e
    · rw [e, if_pos rfl]; rfl
    · rw [e, if_neg (by decide)]; rfl
theorem check_back (seed d d' : Vector UInt8 32) (hb : ∀ k, k < 32 → bitV d' (UInt8.ofNat k) = bitV d (UInt8.ofNat k)) : checkV (keyV seed) d' (sigL seed d) = 0 := by
  rw [checkV_eq, if_pos (sigL_len seed d), chk_back seed d d' hb 32 (Nat.le_refl _), keyU_done, ← keyV_eq, if_pos rfl]
/-- a bit of a digest, unlocked -/
def bitN (d : Vector UInt8 32) (k : UInt8) : UInt8 := shr_u8 (d.toList.getD ((k % 32) / 8).toNat 0) ((k % 32) % 8).toNat &&& 1
/-- bits hang on the first four bytes -/
theorem bitV_four {d e : Vector UInt8 32} (h : ∀ j, j < 4 → d.toList.getD j 0 = e.toList.getD j 0) (k : UInt8) : bitV d k = bitV e k := by
  rw [bitV_eq, bitV_eq, h]
  rw [UInt8.toNat_div, UInt8.toNat_mod]
  have : k.toNat % (32 : UInt8).toNat < 32 := Nat.mod_lt _ (by decide)
  have h8 : (8 : UInt8).toNat = 8 := rfl
  rw [h8]
  omega
noncomputable def partsV (d : Vector UInt8 32) (s : List UInt8) : List UInt8 := lock (chkB d s 32)
theorem partsV_eq (d : Vector UInt8 32) (s : List UInt8) : partsV d s = chkB d s 32 := lock_eq _
theorem chkB_part (d : Vector UInt8 32) {s : List UInt8} (h : s.length = 2048) {k : Nat} : ∀ n, n ≤ 32 → k < n → ((chkB d s n).drop (64 * k)).take 64 = pairB d s k
  | 0, _, h => by omega
  | n + 1, hn, hk => by
    have hl := chkB_len (d := d) h (k := n) (by omega)
    rw [chkB]
    by_cases e : k = n
    · subst e
      rw [List.drop_left' hl]
      exact List.take_of_length_le (by rw [pairB_len h (by omega)]; exact Nat.le_refl _)
    · rw [List.drop_append_of_le_length (by omega), List.take_append_of_le_length (by rw [List.length_drop]; omega)]
      exact chkB_part d h n (by omega) (by omega)
theorem openH_get (sig : List UInt8) {k : Nat} (d : Vector UInt8 32) : ∀ n, k < n → (openH sig n).getD k d = hash32 ((partL sig k).take 32)
  | 0, h => by omega
  | n + 1, h => by
    rw [openH]
    have hl := openH_len sig n
    by_cases e : k = n
    · subst e
      simp only [List.getD]
      rw [List.getElem?_append_right (by omega), hl, Nat.sub_self]
      rfl
    · have := openH_get sig (k := k) d n (by omega)
      simp only [List.getD] at this ⊢
      rw [List.getElem?_append_left (by omega)]
      exact this
theorem hArrs_getD (l : List (Vector UInt8 32)) {k : Nat} (h : k < l.length) (d : Vector UInt8 32) : (hArrs l).getD k .nilp = hArr (l.getD k d) := by
  simp [hArrs, List.getD, h]
theorem check_0 {key d : Vector UInt8 32} {sig : List UInt8} (h : checkV key d sig = 0) : sig.length = 2048 ∧ shaSum (chkB d sig 32) = key := by
  rw [checkV_eq] at h
  split at h
  · rename_i hl
    split at h
    · rename_i he; exact ⟨hl, he⟩
    · cases h
  · cases h
theorem once_core {d e : Vector UInt8 32} {a b : List UInt8} (ha : a.length = 2048) (hb : b.length = 2048) (hp : chkB d a 32 = chkB e b 32) {n : Nat} (hn : n < 32) (hne : ¬ bitV d (UInt8.ofNat n) = bitV e (UInt8.ofNat n)) :
    hL ((partL a n).take 32) = (partL b n).drop 32 := by
  have h1 := chkB_part d ha (k := n) 32 (Nat.le_refl _) hn
  have h2 := chkB_part e hb (k := n) 32 (Nat.le_refl _) hn
  rw [hp, h2] at h1
  have lb : ((partL b n).drop 32).length = 32 := by rw [List.length_drop, partL_len hb hn]
  have la : ((partL a n).drop 32).length = 32 := by rw [List.length_drop, partL_len ha hn]
  unfold pairB at h1
  rcases bitV_01 d (UInt8.ofNat n) with x | x <;> rcases bitV_01 e (UInt8.ofNat n) with y | y
  · exact (hne (x.trans y.symm)).elim
  · rw [x, y, if_neg (by decide), if_pos rfl] at h1
    exact ((List.append_inj h1 (by rw [lb, hL_len])).1).symm
  · rw [x, y, if_pos rfl, if_neg (by decide)] at h1
    exact ((List.append_inj h1 (by rw [la, hL_len])).2).symm
  · exact (hne (x.trans y.symm)).elim
end Go.Proofs.YtkjillpcmffgoaaDoor.M
