/- Part of the proofs: what functions of the program do: plain functions, and the walks that show it. No condition. -/
import Derived.Test.YtbdajagcinfeeaaDoorProg
import Derived.KernelRfl
import Derived.WalkKit
import Derived.Laws.BytesArg
import Derived.Lib.AppendZeros
import Derived.Test.YtbdajagcinfeeaaDoorLe
import Derived.Test.YtbdajagcinfeeaaDoorSwords
import Derived.Test.YtbdajagcinfeeaaDoorSshaK
set_option linter.unusedVariables false
set_option linter.unusedSimpArgs false
set_option autoImplicit false


namespace Go.Proofs.YtbdajagcinfeeaaDoor.M
open Go Go.RowKit
noncomputable section
set_option maxRecDepth 100000
set_option maxHeartbeats 2000000 in
theorem slices_Grow_nil (N : Int) (n : Nat) (hN : N = n) (w : World) (h0 : 0 < n) (hn : n ≤ 8589934592) :
    Calls Tryd.prog 76 #[.slice none 0 0, .int .i64 N] w fun e w' => ∃ v', e = .returned v' ∧ w'.ownsRow w.heap.size 5 1 v' 0 [] ∧ Below w.heap.size w w' := by
  subst hN
  have tE : Tryd.prog.underlying 42 = some (.slice 5) := by kernel_rfl
  have tI : Tryd.prog.underlying 3 = some (.int .i64) := by kernel_rfl
  obtain ⟨i0, hi, hz0, hz1, hz2⟩ := info_parts (P := Tryd.prog) (e := 5) (z := .int .u8 0) (size := 1) (bytes := 1) (by kernel_rfl)
  have hneg : ¬ ((n : Int) < 0) := by omega
  have hpos : (0 : Int) < (n : Int) := by omega
  have hw : IntKind.i64.wrap (n : Int) = n := by rw [IntKind.wrap_i64]; omega
  have hr := fun W => Lib.run_append_nil_zeros (P := Tryd.prog) W 42 3 42 5 i0 (.int .u8 0) .i64 .i64 tE tI hi hz0 n h0 (by rw [hz1]; decide) (by omega) (by rw [hz2]; omega)
  go_enter Tryd.func76, Tryd.ntmps76
  go_wp2_with (at_builtin; refine Lib.wpList_append_run _ rfl _ _ _ _ rfl _ _ rfl rfl _ _ (hr _) ?_)
  go_ret
  have hge := grownCap_ge w n 0 5
  have hcm : grownCap w n 0 5 ≤ maxLen := grownCap_le_maxLen w n 0 5 (by unfold maxLen; omega)
  generalize grownCap w n 0 5 = cap at hge hcm ⊢
  refine ⟨_, rfl, ⟨rfl, .inr ⟨w.heap.size, cap, Builtin.zeroCells #[Value.int IntKind.u8 0] n ++ Builtin.zeroCells #[Value.int IntKind.u8 0] (cap - n), rfl, Nat.le_refl _, ?_, Nat.zero_le _, hcm, ?_, by simp⟩⟩, ?_⟩
  · show (w.alloc _).heap[w.heap.size]? = _
    generalize Builtin.zeroCells #[Value.int IntKind.u8 0] n ++ Builtin.zeroCells #[Value.int IntKind.u8 0] (cap - n) = cs
    show (w.heap.push _)[w.heap.size]? = _
    rw [Array.getElem?_push_size]
  · simp [Builtin.zeroCells]
    omega
  · exact ((Below.refl _ w).alloc (Nat.le_refl _) _).drew
theorem hidM {p : Prop} (h : p) : Hid p := h
theorem cell_lt {w : World} {a : Addr} {v : Value} (h : w.cell? a = some v) : a.block < w.heap.size := by
  cases hq : w.heap[a.block]? with
  | none => simp [World.cell?, hq] at h
  | some o => exact (Array.getElem?_eq_some_iff.1 hq).1
theorem cell_to {B : Nat} {w w' : World} {a : Addr} {v : Value} (hb : Below B w w') (hB : B = w.heap.size) (h : w.cell? a = some v) : w'.cell? a = some v := by
  rw [hb.cell (by rw [hB]; exact cell_lt h)]
  exact h
theorem own_blk {w : World} {B e n : Nat} {v : Value} {l : List Value} (h : w.ownsRow B e 1 v n l) : ∀ k, v.ownBlock = some k → B ≤ k := by
  intro k hk
  rcases h.2 with ⟨rfl, _⟩ | ⟨g, cap', cur, rfl, h1, _⟩
  · cases hk
  · cases hk
    exact h1
set_option maxHeartbeats 4000000 in
theorem slices_Concat_at (ab ao b1 o1 b2 o2 : Nat) (n m c c1 c2 : Nat) (xs ys : List UInt8) (w : World) (hx : xs.length = n) (hy : ys.length = m) (hn : 0 < n) (hm : 0 < m) (hbig : n + m ≤ 4294967296)
    (k1 : w.cell? ⟨ab, ao, none⟩ = some (.slice (some ⟨b1, o1, none⟩) n c1)) (k2 : w.cell? ⟨ab, ao + 1, none⟩ = some (.slice (some ⟨b2, o2, none⟩) m c2))
    (hc : ∀ i, i < n → w.cell? ((⟨b1, o1, none⟩ : Addr).add i) = some (.int .u8 ((xs.getD i 0).toNat : Int))) (hd : ∀ i, i < m → w.cell? ((⟨b2, o2, none⟩ : Addr).add i) = some (.int .u8 ((ys.getD i 0).toNat : Int))) :
    Calls Tryd.prog 57 #[.slice (some ⟨ab, ao, none⟩) 2 c] w fun e w' => ∃ v', e = .returned v' ∧ w'.ownsRow w.heap.size 5 1 v' (n + m) ((xs ++ ys).map EK.u8.enc) ∧ Below w.heap.size w w' := by
  have tT : Tryd.prog.underlying 96 = some (.slice 42) := by kernel_rfl
  have tE : Tryd.prog.underlying 42 = some (.slice 5) := by kernel_rfl
  obtain ⟨i0, hi, hz0, hz1, hz2⟩ := info_parts (P := Tryd.prog) (e := 5) (z := .int .u8 0) (size := 1) (bytes := 1) (by kernel_rfl)
  have A1 : Hid (∀ i, i < n → w.cell? ((⟨b1, o1, none⟩ : Addr).add i) = some (.int .u8 ((xs.getD i 0).toNat : Int))) := hc
  have A2 : Hid (∀ i, i < m → w.cell? ((⟨b2, o2, none⟩ : Addr).add i) = some (.int .u8 ((ys.getD i 0).toNat : Int))) := hd
  clear hc hd
  have hw1 : IntKind.i64.wrap (n : Int) = n := by rw [IntKind.wrap_i64]; omega
  have hw2 : IntKind.i64.wrap ((n : Int) + (m : Int)) = (n : Int) + (m : Int) := by rw [IntKind.wrap_i64]; omega
  have hn1 : ¬ ((n : Int) < 0) := by omega
  have hn2 : ¬ ((n : Int) + (m : Int) < 0) := by omega
  have news : ∀ (W : World) (bb oo : Nat) (l : List UInt8) (q : Nat), l.length = q → Below w.heap.size w W → Hid (∀ i, i < q → w.cell? ((⟨bb, oo, none⟩ : Addr).add i) = some (.int .u8 ((l.getD i 0).toNat : Int))) →
      ∀ j u, (l.map EK.u8.enc)[j]? = some u → W.cell? ((⟨bb, oo, none⟩ : Addr).add j) = some u := by
    intro W bb oo l q hl hb hA j u hj
    have hjn : j < q := by
      have := (List.getElem?_eq_some_iff.1 hj).1
      simp at this
      omega
    refine cell_to hb rfl ?_
    rw [hA.out j hjn]
    have e : (l.map EK.u8.enc)[j]? = some (Value.int .u8 ((l.getD j 0).toNat : Int)) := by
      simp [List.getD, List.getElem?_eq_getElem (show j < l.length by omega)]
      rfl
    rw [e] at hj
    exact hj
  have one : ∀ (l : List UInt8), ∀ u ∈ l.map EK.u8.enc, u.oneCell' = true := by
    intro l u hu
    obtain ⟨x, _, rfl⟩ := List.mem_map.1 hu
    rfl
  have NEWS := hidM news
  clear news
  go_enter Tryd.func57, Tryd.ntmps57
  go_wp2
  refine wp_loop_rounds 3 ?_
  rw [rounds_succ]
  go_wp2
  rw [rounds_succ]
  go_wp2
  rw [rounds_succ]
  go_wp2_with (go_at_call 76; refine (slices_Grow_nil _ (n + m) (by simp) w (by omega) (by omega)).mono ?_; rintro e w1 ⟨v1, rfl, own1, bel1⟩; have k1' := cell_to bel1 rfl k1; have k2' := cell_to bel1 rfl k2)
  have B1 := hidM bel1
  clear bel1
  have hsz1 : w.heap.size ≤ w1.heap.size := B1.out.size
  refine wp_loop_rounds 3 ?_
  rw [rounds_succ]
  go_wp2_with (at_builtin; refine wpList_append_own _ rfl _ _ 42 rfl w.heap.size 5 i0 (.int .u8 0) 1 1 tE hi hz0 hz1 hz2 rfl (by decide) _ _ _ rfl own1 ⟨b1, o1, none⟩ n c1 (xs.map EK.u8.enc) rfl (by simp; omega) (NEWS.out w1 b1 o1 xs n hx B1.out A1) (one xs) (by unfold maxLen; omega) (by omega) hsz1 ?_; intro v2 w2 own2 grow2 nil2)
  have bel2 := B1.out.grown grow2 hsz1 (own_blk own1)
  have k2'' := cell_to bel2 rfl k2
  have B2 := hidM bel2
  clear bel2
  have hsz2 : w.heap.size ≤ w2.heap.size := B2.out.size
  go_wp2
  rw [rounds_succ]
  go_wp2_with (at_builtin; refine wpList_append_own _ rfl _ _ 42 rfl w.heap.size 5 i0 (.int .u8 0) 1 1 tE hi hz0 hz1 hz2 rfl (by decide) _ _ _ rfl own2 ⟨b2, o2, none⟩ m c2 (ys.map EK.u8.enc) rfl (by simp; omega) (NEWS.out w2 b2 o2 ys m hy B2.out A2) (one ys) (by unfold maxLen; omega) (by omega) hsz2 ?_; intro v3 w3 own3 grow3 nil3)
  have bel3 := B2.out.grown grow3 hsz2 (own_blk own2)
  have B3 := hidM bel3
  clear bel3
  go_wp2
  rw [rounds_succ]
  go_wp2
  go_ret
  refine ⟨v3, rfl, ?_, B3.out⟩
  simpa using own3
theorem post_row {xs : List UInt8} {w w' : World} {v' : Value} {n e : Nat} {F S : Nat → Prop} {vals : Array Value} (hown : w'.ownsRow w.heap.size e 1 v' n (xs.map EK.u8.enc)) (hb : Below w.heap.size w w') (hn : n = xs.length) :
    Post w F S vals { val := .o 60000, blks := [(60000, .row (.s .u8 xs) false)], flat := true, roots := [] } (.returned v') w' := by
  subst hn
  obtain ⟨hl, hv⟩ := hown
  have hsz := hb.size
  rcases hv with ⟨rfl, h0⟩ | ⟨g, cap', cur, rfl, h1, h2, h3, h4, h5, h6⟩
  · have hxs : xs = [] := List.length_eq_zero_iff.1 h0
    subst hxs
    have M' : MS (fun _ => Value.slice none 0 0) (fun _ => False) w'.heap w.heap.size F (lk [(60000, Blk.row (.s .u8 []) false)]) := by
      refine ⟨fun n b hb => ?_, fun n b hb k hk => hk.elim, fun n m _ _ _ k hk => hk.elim, fun k hk => hk.elim⟩
      rw [lk_cons] at hb
      split at hb
      · cases hb
        exact ⟨none, 0, rfl, Nat.le_refl _, (fun h => by cases h), .inl rfl⟩
      · cases hb
    exact ⟨⟨_, _, (fun _ => False), rfl, fun _ _ h => h, fun _ h => h.elim, (fun h => by cases h), M', ⟨_, .o (n := 60000) (by rw [lk_cons, if_pos rfl]) rfl, rfl⟩, fun _ _ h => by cases h⟩, hsz, fun b h _ => hb.block b h, hb.os, hb.tape, hb.output⟩
  · have hg : g < w'.heap.size := (Array.getElem?_eq_some_iff.1 h2).1
    have M' : MS (fun _ => Value.slice (some ⟨g, 0, none⟩) xs.length cap') (fun _ => False) w'.heap w.heap.size F (lk [(60000, Blk.row (.s .u8 xs) false)]) := by
      refine ⟨fun n b hb => ?_, fun n b hb k hk => ⟨fun h => h, ?_⟩, fun n m hne h h' k hk => ?_, fun k hk => hk.elim⟩
      · rw [lk_cons] at hb
        split at hb
        · cases hb
          refine ⟨_, cap', rfl, h3, (fun h => by cases h), .inr ⟨g, 0, cur, _, rfl, h2, by simp [RC.sz, h5], [], xs.map EK.u8.enc, cur.toList.drop xs.length, ?_, rfl, .s .u8 xs⟩⟩
          rw [List.nil_append]
          rw [Nat.mul_one] at h6
          rw [← h6, List.take_append_drop]
        · cases hb
      · obtain ⟨_, rfl⟩ := hk
        exact ⟨hg, .inl h1⟩
      · exfalso
        rw [lk_cons] at h h'
        split at h
        · split at h'
          · omega
          · cases h'
        · cases h
    exact ⟨⟨_, _, (fun _ => False), rfl, fun _ _ h => h, fun _ h => h.elim, (fun h => by cases h), M', ⟨_, .o (n := 60000) (by rw [lk_cons, if_pos rfl]) rfl, rfl⟩, fun _ _ h => by cases h⟩, hsz, fun b h _ => hb.block b h, hb.os, hb.tape, hb.output⟩
theorem cell_at {w : World} {b off i : Nat} {vs : List Value} {v : Value} (hc : CellsAt w.heap b off vs) (hv : vs[i]? = some v) : w.cell? ⟨b, off + i, none⟩ = some v := by
  obtain ⟨c, T, fz, g1, g2⟩ := hc
  simp only [World.cell?, g1]
  rw [if_neg (by simp), g2 i v hv]
/-- where a slice of bytes that is not empty lies -/
theorem bytes_at {S : Nat → Prop} {w : World} {xs : List UInt8} {vs : List Value} (r : RepPV S w.heap (.sl .u8 xs) vs) (h0 : 0 < xs.length) : ∃ b o cap, vs = [.slice (some ⟨b, o, none⟩) xs.length cap] ∧
    ∀ i, i < xs.length → w.cell? ((⟨b, o, none⟩ : Addr).add i) = some (.int .u8 ((xs.getD i 0).toNat : Int)) := by
  cases r with
  | sl hle hc =>
    rename_i ad cap
    rcases hc with rfl | ⟨b, o, rfl, _, hc⟩
    · simp at h0
    · refine ⟨b, o, cap, rfl, fun i hi => ?_⟩
      have ha : (⟨b, o, none⟩ : Addr).add i = ⟨b, o + i, none⟩ := by
        unfold Addr.add
        split
        · rename_i e; subst e; rfl
        · rfl
      rw [ha]
      exact cell_at hc (by simp [List.getD, hi]; rfl)
def slices_Concat_c : Ans
  | [.pv (.sp 1 [.sl .u8 a, .sl .u8 b])], [] => some (some (0 < a.length ∧ 0 < b.length ∧ a.length + b.length ≤ 4294967296), { val := .o 60000, blks := [(60000, .row (.s .u8 (a ++ b)) false)], flat := true, roots := [] })
  | _, _ => none
theorem slices_Concat_ok : FnOK Tryd.prog theG 57 (unW slices_Concat_c) := by
  intro w β S F args mem vals out ho hG M hr
  obtain ⟨p, h1, hp⟩ := unW_some ho
  unfold slices_Concat_c at h1
  split at h1
  · rename_i xs ys
    cases h1
    obtain ⟨p1, p2, p3⟩ : 0 < xs.length ∧ 0 < ys.length ∧ xs.length + ys.length ≤ 4294967296 := hp
    obtain ⟨l⟩ := vals
    cases hr with
    | cons a hr =>
      cases hr
      obtain ⟨vs, rp, rfl⟩ := a.pv_inv
      clear a
      cases rp with
      | sp hle hsz hl hc =>
        rename_i us ad cap
        cases hl with
        | cons r1 hl =>
          cases hl with
          | cons r2 hl =>
            cases hl
            obtain ⟨b1, o1, c1, rfl, q1⟩ := bytes_at r1 p1
            obtain ⟨b2, o2, c2, rfl, q2⟩ := bytes_at r2 p2
            rcases hc with hc | ⟨b, o, rfl, _, hc⟩
            · cases hc
            · exact (slices_Concat_at b o b1 o1 b2 o2 xs.length ys.length cap c1 c2 xs ys w rfl rfl p1 p2 p3 (cell_at (i := 0) hc rfl) (cell_at (i := 1) hc rfl) q1 q2).mono fun e w' ⟨v', he, hown, hb⟩ => by
                subst he
                exact post_row hown hb (by simp)
  · cases h1

end
end Go.Proofs.YtbdajagcinfeeaaDoor.M
