/- Part of the proofs: what functions of the program do: plain functions, and the walks that show it. No condition. -/
import Derived.KernelRfl
import Derived.Test.YtkjillpcmffgoaaDoorLe
import Derived.Test.YtkjillpcmffgoaaDoorSshaS
import Derived.Test.YtkjillpcmffgoaaDoorSwords
set_option linter.unusedVariables false
set_option linter.unusedSimpArgs false
set_option autoImplicit false
namespace Go.Proofs.YtkjillpcmffgoaaDoor.M
open Go
/-! the hash, reckoned on numbers (for the kernel) -/
def nRot (x n : Nat) : Nat := Nat.lor (Nat.shiftRight x n) (Nat.mod (Nat.shiftLeft x (Nat.sub 32 n)) 4294967296)
def seqN {α : Type} (n : Nat) (f : Nat → α) : α :=
  match n with
  | 0 => f 0
  | m + 1 => f (Nat.succ m)
theorem seqN_eq {α : Type} (n : Nat) (f : Nat → α) : seqN n f = f n := by cases n <;> rfl
inductive N8 where
  | mk (a b c d e f g h : Nat)
def nS1 (e : Nat) : Nat := Nat.xor (Nat.xor (nRot e 6) (nRot e 11)) (nRot e 25)
def nS0 (a : Nat) : Nat := Nat.xor (Nat.xor (nRot a 2) (nRot a 13)) (nRot a 22)
def nCh (e f g : Nat) : Nat := Nat.xor (Nat.land e f) (Nat.land (Nat.sub 4294967295 e) g)
def nMaj (a b c : Nat) : Nat := Nat.xor (Nat.xor (Nat.land a b) (Nat.land a c)) (Nat.land b c)
def nL0 (x : Nat) : Nat := Nat.xor (Nat.xor (nRot x 7) (nRot x 18)) (Nat.shiftRight x 3)
def nL1 (x : Nat) : Nat := Nat.xor (Nat.xor (nRot x 17) (nRot x 19)) (Nat.shiftRight x 10)
def nSch (a b c d : Nat) : Nat := Nat.mod (Nat.add (Nat.add (Nat.add a b) (nL0 c)) (nL1 d)) 4294967296
def nT1 (h e f g k w : Nat) : Nat := Nat.mod (Nat.add (Nat.add (Nat.add (Nat.add h (nS1 e)) (nCh e f g)) k) w) 4294967296
def nAdd (a b : Nat) : Nat := Nat.mod (Nat.add a b) 4294967296
def nU1 (a b c : Nat) : Nat := Nat.add (nS0 a) (nMaj a b c)
def goN : List Nat → (w0 w1 w2 w3 w4 w5 w6 w7 w8 w9 w10 w11 w12 w13 w14 w15 a b c d e f g h : Nat) → N8
  | [], _, _, _, _, _, _, _, _, _, _, _, _, _, _, _, _, a, b, c, d, e, f, g, h => .mk a b c d e f g h
  | k :: ks, w0, w1, w2, w3, w4, w5, w6, w7, w8, w9, w10, w11, w12, w13, w14, w15, a, b, c, d, e, f, g, h =>
    seqN (nT1 h e f g k w0) fun t => seqN (nAdd t (nU1 a b c)) fun a' => seqN (nAdd d t) fun e' => seqN (nSch w0 w9 w1 w14) fun w16 =>
      goN ks w1 w2 w3 w4 w5 w6 w7 w8 w9 w10 w11 w12 w13 w14 w15 w16 a' a b c e' e f g
def toN8 (v : Vector UInt32 8) : N8 := .mk (shG v 0).toNat (shG v 1).toNat (shG v 2).toNat (shG v 3).toNat (shG v 4).toNat (shG v 5).toNat (shG v 6).toNat (shG v 7).toNat
theorem shr_nat (x : UInt32) (n : Nat) (h : n ≤ 32) : (shr_u32 x n).toNat = Nat.shiftRight x.toNat n := by
  have hx : x.toNat < 2 ^ 32 := UInt32.toNat_lt x
  have h2 : x.toNat / 2 ^ n ≤ x.toNat := Nat.div_le_self _ _
  show (UInt32.ofNat (x.toNat / 2 ^ min n 32)).toNat = x.toNat >>> n
  rw [UInt32.toNat_ofNat', Nat.min_eq_left h, Nat.shiftRight_eq_div_pow, Nat.mod_eq_of_lt (by omega)]
theorem shT_nat (x : UInt32) (n : Nat) (h : n ≤ 32) : (shT x n).toNat = nRot x.toNat n := by
  unfold shT
  rw [UInt32.toNat_or, shr_nat x n h]
  show _ ||| (UInt32.ofNat (x.toNat * 2 ^ min (32 - n) 32)).toNat = (x.toNat >>> n) ||| ((x.toNat <<< (32 - n)) % 4294967296)
  rw [UInt32.toNat_ofNat', Nat.min_eq_left (by omega), Nat.shiftLeft_eq]
  rfl
theorem nat_add (x y : UInt32) : (x + y).toNat = nAdd x.toNat y.toNat := UInt32.toNat_add x y
theorem nT1_eq (kt w : Vector UInt32 64) (i : Nat) (v : Vector UInt32 8) :
    (shT1 kt w i v).toNat = nT1 (shG v 7).toNat (shG v 4).toNat (shG v 5).toNat (shG v 6).toNat (kt.toList.getD i 0).toNat (w.toList.getD i 0).toNat := by
  unfold shT1 nT1 nS1 nCh
  simp only [UInt32.toNat_add, UInt32.toNat_xor, UInt32.toNat_and, UInt32.toNat_not, shT_nat _ _ (by decide : 6 ≤ 32), shT_nat _ _ (by decide : 11 ≤ 32), shT_nat _ _ (by decide : 25 ≤ 32)]
  show _ = (_ + _ + _ + _ + _) % 4294967296
  simp only [Nat.add_mod_mod, Nat.mod_add_mod]
  rfl
theorem nU1_eq (v : Vector UInt32 8) (t : UInt32) : (t + shU1 v).toNat = nAdd t.toNat (nU1 (shG v 0).toNat (shG v 1).toNat (shG v 2).toNat) := by
  unfold shU1 nAdd nU1 nS0 nMaj
  simp only [UInt32.toNat_add, UInt32.toNat_xor, UInt32.toNat_and, shT_nat _ _ (by decide : 2 ≤ 32), shT_nat _ _ (by decide : 13 ≤ 32), shT_nat _ _ (by decide : 22 ≤ 32)]
  show _ = (_ + (_ + _)) % 4294967296
  simp only [Nat.add_mod_mod]
  rfl
def sX (a b c d : UInt32) : UInt32 := a + b + (shT c 7 ^^^ shT c 18 ^^^ shr_u32 c 3) + (shT d 17 ^^^ shT d 19 ^^^ shr_u32 d 10)
theorem nSch_eq (a b c d : UInt32) : (sX a b c d).toNat = nSch a.toNat b.toNat c.toNat d.toNat := by
  unfold sX nSch nL0 nL1
  simp only [UInt32.toNat_add, UInt32.toNat_xor, shT_nat _ _ (by decide : 7 ≤ 32), shT_nat _ _ (by decide : 18 ≤ 32), shT_nat _ _ (by decide : 17 ≤ 32), shT_nat _ _ (by decide : 19 ≤ 32),
    shr_nat _ _ (by decide : 3 ≤ 32), shr_nat _ _ (by decide : 10 ≤ 32)]
  show _ = (_ + _ + _ + _) % 4294967296
  simp only [Nat.mod_add_mod]
  rfl
/-- the words, without end -/
def wX (W : Vector UInt32 64) (j : Nat) : UInt32 :=
  if h : j < 16 then W.toList.getD j 0 else sX (wX W (j - 16)) (wX W (j - 7)) (wX W (j - 15)) (wX W (j - 2))
termination_by j
theorem wX_low (W : Vector UInt32 64) {j : Nat} (h : j < 16) : wX W j = W.toList.getD j 0 := by rw [wX, dif_pos h]
theorem wX_up (W : Vector UInt32 64) (j : Nat) : wX W (j + 16) = sX (wX W j) (wX W (j + 9)) (wX W (j + 1)) (wX W (j + 14)) := by
  rw [wX, dif_neg (by omega)]
  rfl
theorem shG_mk (a b c d e f g h : UInt32) : shG #v[a, b, c, d, e, f, g, h] 0 = a ∧ shG #v[a, b, c, d, e, f, g, h] 1 = b ∧ shG #v[a, b, c, d, e, f, g, h] 2 = c ∧ shG #v[a, b, c, d, e, f, g, h] 3 = d ∧
    shG #v[a, b, c, d, e, f, g, h] 4 = e ∧ shG #v[a, b, c, d, e, f, g, h] 5 = f ∧ shG #v[a, b, c, d, e, f, g, h] 6 = g ∧ shG #v[a, b, c, d, e, f, g, h] 7 = h := ⟨rfl, rfl, rfl, rfl, rfl, rfl, rfl, rfl⟩
theorem goN_eq (kt W : Vector UInt32 64) (hW : ∀ j, j < 64 → W.toList.getD j 0 = wX W j) : ∀ (m i : Nat) (v : Vector UInt32 8), i + m = 64 →
    goN ((kt.toList.drop i).map UInt32.toNat) (wX W i).toNat (wX W (i + 1)).toNat (wX W (i + 2)).toNat (wX W (i + 3)).toNat (wX W (i + 4)).toNat (wX W (i + 5)).toNat (wX W (i + 6)).toNat (wX W (i + 7)).toNat
      (wX W (i + 8)).toNat (wX W (i + 9)).toNat (wX W (i + 10)).toNat (wX W (i + 11)).toNat (wX W (i + 12)).toNat (wX W (i + 13)).toNat (wX W (i + 14)).toNat (wX W (i + 15)).toNat
      (shG v 0).toNat (shG v 1).toNat (shG v 2).toNat (shG v 3).toNat (shG v 4).toNat (shG v 5).toNat (shG v 6).toNat (shG v 7).toNat = toN8 (iterUp (shStep kt W) i m v)
  | 0, i, v, hi => by
    have : i = 64 := by omega
    subst this
    rw [List.drop_of_length_le (by rw [Vector.length_toList]; exact Nat.le_refl _)]
    rfl
  | m + 1, i, v, hi => by
    have hk : kt.toList.drop i = kt.toList.getD i 0 :: kt.toList.drop (i + 1) := by
      have hl : i < kt.toList.length := by rw [Vector.length_toList]; omega
      rw [List.drop_eq_getElem_cons hl, getD_lt _ _ _ hl]
    rw [hk, List.map_cons, goN, seqN_eq, seqN_eq, seqN_eq, seqN_eq, ← hW i (by omega), ← nT1_eq, ← nU1_eq, ← nat_add, hW i (by omega), ← nSch_eq, ← wX_up]
    have := goN_eq kt W hW m (i + 1) (shStep kt W i v) (by omega)
    obtain ⟨g0, g1, g2, g3, g4, g5, g6, g7⟩ := shG_mk (shT1 kt W i v + shU1 v) (shG v 0) (shG v 1) (shG v 2) (shG v 3 + shT1 kt W i v) (shG v 4) (shG v 5) (shG v 6)
    rw [show iterUp (shStep kt W) i (m + 1) v = iterUp (shStep kt W) (i + 1) m (shStep kt W i v) from rfl, ← this]
    simp only [shStep, g0, g1, g2, g3, g4, g5, g6, g7, Nat.add_assoc, Nat.reduceAdd]

/-! the words of a block -/
def nMix (x y : Nat) : Nat := Nat.lor (Nat.mod (Nat.shiftLeft x 8) 4294967296) y
theorem nMix_eq (x : UInt32) (y : UInt8) : (shMix x y).toNat = nMix x.toNat y.toNat := by
  unfold shMix nMix
  rw [UInt32.toNat_or, UInt8.toNat_toUInt32]
  show (UInt32.ofNat (x.toNat * 2 ^ min 8 32)).toNat ||| _ = ((x.toNat <<< 8) % 4294967296) ||| _
  rw [UInt32.toNat_ofNat', Nat.shiftLeft_eq]
  rfl
def shWd (b : Nat → UInt8) (i : Nat) : UInt32 := shMix (shMix (shMix (shMix 0 (b (4 * i))) (b (4 * i + 1))) (b (4 * i + 2))) (b (4 * i + 3))
theorem shFill_at (b : Nat → UInt8) (i : Nat) (w : Vector UInt32 64) (hi : i < 64) (h0 : w.toList.getD i 0 = 0) (j : Nat) : (shFill b i w).toList.getD j 0 = if j = i then shWd b i else w.toList.getD j 0 := by
  show (Vector.setIfInBounds (Vector.setIfInBounds (Vector.setIfInBounds (Vector.setIfInBounds w i _) i _) i _) i _).toList.getD j 0 = _
  by_cases e : j = i
  · subst e
    simp only [vget_set _ _ _ _ _ hi, if_pos, h0, shWd]
    rfl
  · have e' : ¬ i = j := fun h => e h.symm
    simp only [vget_set _ _ _ _ _ hi, if_neg e, if_neg e']
theorem fill_at (b : Nat → UInt8) : ∀ m, m ≤ 16 → ∀ j, (iterUp (shFill b) 0 m (Vector.replicate 64 0)).toList.getD j 0 = if j < m then shWd b j else 0
  | 0, _, j => by
    rw [if_neg (by omega)]
    show (Vector.replicate 64 (0 : UInt32)).toList.getD j 0 = 0
    rw [Vector.toList_replicate]
    simp only [List.getD, List.getElem?_replicate]
    split <;> rfl
  | m + 1, hm, j => by
    have ih := fill_at b m (by omega)
    rw [iterUp_succ, Nat.zero_add, shFill_at b m _ (by omega) (by rw [ih, if_neg (by omega)]), ih]
    by_cases e : j = m
    · subst e; rw [if_pos rfl, if_pos (by omega)]
    · rw [if_neg e]
      by_cases h : j < m
      · rw [if_pos h, if_pos (by omega)]
      · rw [if_neg h, if_neg (by omega)]
theorem sch_at (w0 : Vector UInt32 64) : ∀ m, m ≤ 48 → ∀ n, m ≤ n → n ≤ 48 → ∀ j, j < 16 + m → (iterUp (fun i w => Vector.setIfInBounds w i (shSched w i)) 16 n w0).toList.getD j 0 = (iterUp (fun i w => Vector.setIfInBounds w i (shSched w i)) 16 m w0).toList.getD j 0
  | m, hm, n, hmn, hn, j, hj => by
    induction n with
    | zero => have : m = 0 := by omega
              subst this; rfl
    | succ n ih =>
      by_cases e : m = n + 1
      · subst e; rfl
      · rw [iterUp_succ, vget_set _ _ _ _ _ (by omega), if_neg (by omega)]
        exact ih (by omega) (by omega)
theorem shW_low (b : Nat → UInt8) {j : Nat} (h : j < 16) : (shW b).toList.getD j 0 = shWd b j := by
  unfold shW
  rw [sch_at _ 0 (by omega) 48 (by omega) (by omega) j (by omega)]
  show (iterUp (shFill b) 0 16 (Vector.replicate 64 0)).toList.getD j 0 = _
  rw [fill_at b 16 (Nat.le_refl _), if_pos h]
theorem shSched_congr {w w' : Vector UInt32 64} {j : Nat} (h1 : w.toList.getD (j - 16) 0 = w'.toList.getD (j - 16) 0) (h2 : w.toList.getD (j - 7) 0 = w'.toList.getD (j - 7) 0)
    (h3 : w.toList.getD (j - 15) 0 = w'.toList.getD (j - 15) 0) (h4 : w.toList.getD (j - 2) 0 = w'.toList.getD (j - 2) 0) : shSched w j = shSched w' j := by
  unfold shSched
  rw [h1, h2, h3, h4]
theorem shW_up (b : Nat → UInt8) {j : Nat} (h1 : 16 ≤ j) (h2 : j < 64) : (shW b).toList.getD j 0 = shSched (shW b) j := by
  obtain ⟨m, rfl⟩ : ∃ m, j = 16 + m := ⟨j - 16, by omega⟩
  have key : ∀ i, i < 16 + m → (iterUp (fun i w => Vector.setIfInBounds w i (shSched w i)) 16 m (iterUp (shFill b) 0 16 (Vector.replicate 64 0))).toList.getD i 0 = (shW b).toList.getD i 0 := fun i hi =>
    (sch_at _ m (by omega) 48 (by omega) (by omega) i hi).symm
  have e1 : (shW b).toList.getD (16 + m) 0 = (iterUp (fun i w => Vector.setIfInBounds w i (shSched w i)) 16 (m + 1) (iterUp (shFill b) 0 16 (Vector.replicate 64 0))).toList.getD (16 + m) 0 :=
    sch_at _ (m + 1) (by omega) 48 (by omega) (by omega) (16 + m) (by omega)
  rw [e1, iterUp_succ, vget_set _ _ _ _ _ (by omega), if_pos rfl]
  exact shSched_congr (key _ (by omega)) (key _ (by omega)) (key _ (by omega)) (key _ (by omega))
theorem shW_wX (b : Nat → UInt8) : ∀ j, j < 64 → (shW b).toList.getD j 0 = wX (shW b) j := by
  intro j
  induction j using Nat.strongRecOn with
  | _ j ih =>
    intro hj
    by_cases h : j < 16
    · rw [wX_low _ h]
    · obtain ⟨i, rfl⟩ : ∃ i, j = i + 16 := ⟨j - 16, by omega⟩
      rw [shW_up b (by omega) hj, wX_up, ← ih i (by omega) (by omega), ← ih (i + 9) (by omega) (by omega), ← ih (i + 1) (by omega) (by omega), ← ih (i + 14) (by omega) (by omega)]
      rfl
def nK : List Nat := shaK.toList.map UInt32.toNat
def plusN : N8 → N8 → (N8 → List Nat) → List Nat
  | .mk a b c d e f g h, .mk a' b' c' d' e' f' g' h', K => seqN (nAdd a a') fun a => seqN (nAdd b b') fun b => seqN (nAdd c c') fun c => seqN (nAdd d d') fun d =>
    seqN (nAdd e e') fun e => seqN (nAdd f f') fun f => seqN (nAdd g g') fun g => seqN (nAdd h h') fun h => K (.mk a b c d e f g h)
def nWd (l : List Nat) (i : Nat) : Nat := nMix (nMix (nMix (nMix 0 (l.getD (4 * i) 0)) (l.getD (4 * i + 1) 0)) (l.getD (4 * i + 2) 0)) (l.getD (4 * i + 3) 0)
def outN : N8 → List Nat
  | .mk a b c d e f g h => [a, b, c, d, e, f, g, h].flatMap fun x => [Nat.mod (Nat.shiftRight x 24) 256, Nat.mod (Nat.shiftRight x 16) 256, Nat.mod (Nat.shiftRight x 8) 256, Nat.mod (Nat.shiftRight x 0) 256]
def foldN : Nat → N8 → List Nat → List Nat
  | 0, s, _ => outN s
  | n + 1, .mk a b c d e f g h, l => plusN (.mk a b c d e f g h) (goN nK (nWd l 0) (nWd l 1) (nWd l 2) (nWd l 3) (nWd l 4) (nWd l 5) (nWd l 6) (nWd l 7) (nWd l 8) (nWd l 9) (nWd l 10) (nWd l 11) (nWd l 12) (nWd l 13) (nWd l 14) (nWd l 15) a b c d e f g h) fun s => foldN n s (l.drop 64)
theorem plusN_eq (s v : Vector UInt32 8) (K : N8 → List Nat) : plusN (toN8 s) (toN8 v) K = K (toN8 (shPlus s v)) := by
  have e : ∀ j, j < 8 → (shG (shPlus s v) j).toNat = nAdd (shG s j).toNat (shG v j).toNat := fun j hj => by
    rw [← nat_add]
    exact congrArg _ (shG_ofFn _ j hj)
  unfold toN8 plusN
  simp only [seqN_eq]
  rw [e 0 (by decide), e 1 (by decide), e 2 (by decide), e 3 (by decide), e 4 (by decide), e 5 (by decide), e 6 (by decide), e 7 (by decide)]
theorem getD_md (p : List UInt8) (c j : Nat) : ((p.drop c).map UInt8.toNat).getD j 0 = (p.getD (c + j) 0).toNat := by
  simp only [List.getD, List.getElem?_map, List.getElem?_drop]
  cases p[c + j]? <;> rfl
theorem nWd_eq (p : List UInt8) (c i : Nat) : nWd ((p.drop c).map UInt8.toNat) i = (shWd (fun j => p.getD (c + j) 0) i).toNat := by
  unfold nWd shWd
  rw [getD_md, getD_md, getD_md, getD_md, nMix_eq, nMix_eq, nMix_eq, nMix_eq]
  rfl
theorem foldN_eq (p : List UInt8) : ∀ n k, foldN n (toN8 (shaFold p k)) ((p.drop (64 * k)).map UInt8.toNat) = outN (toN8 (shaFold p (k + n)))
  | 0, k => rfl
  | n + 1, k => by
    have hs : shaFold p (k + 1) = shPlus (shaFold p k) (iterUp (shStep shaK (shW fun j => p.getD (64 * k + j) 0)) 0 64 (shaFold p k)) := by
      rw [shaFold, shaRound_eq]; rfl
    have hw : ∀ i, i < 16 → nWd ((p.drop (64 * k)).map UInt8.toNat) i = (wX (shW fun j => p.getD (64 * k + j) 0) (0 + i)).toNat := fun i hi => by
      rw [nWd_eq, Nat.zero_add, ← shW_wX _ i (by omega), shW_low _ hi]
    have hg := goN_eq shaK (shW fun j => p.getD (64 * k + j) 0) (shW_wX _) 64 0 (shaFold p k) rfl
    rw [List.drop_zero] at hg
    have hd : List.drop 64 ((p.drop (64 * k)).map UInt8.toNat) = (p.drop (64 * (k + 1))).map UInt8.toNat := by
      rw [← List.map_drop, List.drop_drop, Nat.mul_add, Nat.mul_one]
    show plusN (toN8 (shaFold p k)) (goN nK _ _ _ _ _ _ _ _ _ _ _ _ _ _ _ _ _ _ _ _ _ _ _ _) (fun s => foldN n s (List.drop 64 ((p.drop (64 * k)).map UInt8.toNat))) = _
    simp only [hw 0 (by decide), hw 1 (by decide), hw 2 (by decide), hw 3 (by decide), hw 4 (by decide), hw 5 (by decide), hw 6 (by decide), hw 7 (by decide), hw 8 (by decide), hw 9 (by decide), hw 10 (by decide),
      hw 11 (by decide), hw 12 (by decide), hw 13 (by decide), hw 14 (by decide), hw 15 (by decide)]
    rw [show goN nK _ _ _ _ _ _ _ _ _ _ _ _ _ _ _ _ _ _ _ _ _ _ _ _ = toN8 (iterUp (shStep shaK (shW fun j => p.getD (64 * k + j) 0)) 0 64 (shaFold p k)) from hg, plusN_eq, ← hs, hd, foldN_eq p n (k + 1), show k + 1 + n = k + (n + 1) by omega]
theorem outN_eq (s : Vector UInt32 8) : outN (toN8 s) = (shaOut s).toList.map UInt8.toNat := by
  have e : ∀ i j, j ≤ 32 → ((shr_u32 (shG s i) j).toUInt8).toNat = Nat.mod (Nat.shiftRight (shG s i).toNat j) 256 := fun i j hj => by
    rw [UInt32.toNat_toUInt8, shr_nat _ _ hj]; rfl
  have l : (shaOut s).toList = (List.range 32).map (shaByte s) := by
    unfold shaOut
    rw [Vector.toList_ofFn]
    apply List.ext_getElem
    · simp
    · intro i h1 h2; rw [List.getElem_ofFn, List.getElem_map, List.getElem_range]
  rw [l, List.map_map]
  show _ = [0, 1, 2, 3, 4, 5, 6, 7, 8, 9, 10, 11, 12, 13, 14, 15, 16, 17, 18, 19, 20, 21, 22, 23, 24, 25, 26, 27, 28, 29, 30, 31].map _
  simp only [List.map_cons, List.map_nil, Function.comp, shaByte, Nat.reduceDiv, Nat.reduceMod, Nat.reduceMul, Nat.reduceSub, e _ 24 (by decide), e _ 16 (by decide), e _ 8 (by decide), e _ 0 (by decide)]
  rfl
def highN (n : Nat) : List Nat := (List.range 8).map fun i => Nat.mod (Nat.shiftRight n (8 * (7 - i))) 256
def padN (l : List Nat) : List Nat := l ++ [128] ++ List.replicate (shaZeros l.length) 0 ++ highN (8 * l.length)
theorem padN_eq (b : List UInt8) (h : b.length < 4294967296) : (shaPad b).map UInt8.toNat = padN (b.map UInt8.toNat) := by
  unfold shaPad padN
  rw [List.map_append, List.map_append, List.map_append, List.map_replicate, List.length_map]
  congr 1
  unfold shaHigh highN
  rw [List.map_map]
  refine List.map_congr_left fun i hi => ?_
  have hi : i < 8 := List.mem_range.1 hi
  have h1 : (UInt64.ofInt (b.length : Int)).toNat = b.length := u64_ofInt (by omega)
  have h2 : (shl_u64 (UInt64.ofInt (b.length : Int)) 3).toNat = 8 * b.length := by
    unfold shl_u64
    rw [UInt64.toNat_ofNat', h1, show min 3 64 = 3 from rfl]
    show b.length * 8 % 18446744073709551616 = _
    omega
  have h3 : 8 * b.length / 2 ^ (8 * (8 - 1 - i)) ≤ 8 * b.length := Nat.div_le_self _ _
  show ((shr_u64 _ (8 * (8 - 1 - i))).toUInt8).toNat = ((8 * b.length) >>> (8 * (7 - i))) % 256
  unfold shr_u64
  rw [UInt64.toNat_toUInt8, UInt64.toNat_ofNat', h2, Nat.shiftRight_eq_div_pow, Nat.min_eq_left (by omega), Nat.mod_eq_of_lt (b := 2 ^ 64) (by omega)]
def initN : N8 := toN8 shaInit
def shaNat (l : List Nat) : List Nat := foldN ((padN l).length / 64) initN (padN l)
theorem shaSum_nat (b : List UInt8) (h : b.length < 4294967296) : (shaSum b).toList.map UInt8.toNat = shaNat (b.map UInt8.toNat) := by
  have := foldN_eq (shaPad b) ((shaPad b).length / 64) 0
  rw [Nat.mul_zero, List.drop_zero, Nat.zero_add, outN_eq] at this
  rw [shaSum_eq, ← this, padN_eq b h]
  unfold shaNat
  rw [← padN_eq b h, List.length_map]
  rfl
theorem shaNat_len (l : List Nat) : ∀ n s, (foldN n s l).length = 32 := by
  intro n
  induction n generalizing l with
  | zero => intro s; cases s; rfl
  | succ n ih => intro s; cases s; simp only [foldN]; generalize goN _ _ _ _ _ _ _ _ _ _ _ _ _ _ _ _ _ _ _ _ _ _ _ _ _ = v; cases v; simp only [plusN, seqN_eq]; exact ih _ _
end Go.Proofs.YtkjillpcmffgoaaDoor.M
