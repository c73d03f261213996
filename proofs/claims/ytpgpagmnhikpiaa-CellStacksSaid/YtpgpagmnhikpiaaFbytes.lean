/- Part of the proofs: what functions of the program do: plain functions, and the walks that show it. No condition. -/
import Derived.Test.YtpgpagmnhikpiaaProg
import Derived.KernelRfl
import Derived.WalkKit
import Derived.Laws.BytesArg
import Derived.ProofKit
import Derived.Lib.SliceRun
import Derived.Test.YtpgpagmnhikpiaaLd
import Derived.Test.YtpgpagmnhikpiaaSwords
set_option linter.unusedVariables false
set_option linter.unusedSimpArgs false
set_option autoImplicit false




namespace Go.Proofs.Ytpgpagmnhikpiaa.M
open Go Go.RowKit
noncomputable section
set_option maxRecDepth 100000
/-- a slice of bytes, as the convert laws ask for it -/
theorem conv_bytes {P : Program} {β : Nat → Value} {S : Nat → Prop} {L : Nat → Option Blk} {w : World} {xs : List UInt8} {v : Value} (r : RepA β S w.heap L (.pv (.sl .u8 xs)) v) (src e dst : TypeId)
    (hs : P.underlying src = some (.slice e)) (he : P.underlying e = some (.int .u8)) (hd : P.underlying dst = some .string) : (convert src dst v).run P w = .ok (.string ⟨xs.toArray⟩) w := by
  obtain ⟨vs, rp, rfl⟩ := r.pv_inv
  clear r
  cases rp with
  | sl hle hc =>
    rename_i ad cap
    show (convert src dst (.slice ad xs.length cap)).run P w = _
    have hnum : strOfNums (xs.map fun x => ((x.toNat : Nat) : Int)) = ⟨xs.toArray⟩ := by
      unfold strOfNums
      congr 1
      apply Array.ext
      · simp
      · intro i h1 h2
        simp
    rcases hc with rfl | ⟨b, off, rfl, _, hcell⟩
    · have : (convert src dst (.slice ad 0 cap)).run P w = .ok (.string ByteArray.empty) w := by
        rw [run_convert_bytes_string w src dst e _ 0 cap hs he hd]
        cases ad <;> simp [Conv.bytesToString, loadCells]
        all_goals rfl
      exact this
    · have := run_convert_bytes_arg (P := P) w src e hs he b off xs.length cap (xs.map fun x => ((x.toNat : Nat) : Int)) (by simp) (fun i hi => by
        obtain ⟨c, T, fz, h1, h2⟩ := hcell
        have := h2 i _ (by rw [List.getElem?_map, List.getElem?_eq_getElem hi]; rfl)
        simp only [World.cell?, h1]
        rw [if_neg (by simp), this]
        simp [EK.enc, List.getD, hi]) dst hd
      rw [this, hnum]
def bytes_Equal_c : Ans
  | [.pv (.sl .u8 a), .pv (.sl .u8 b)], [] => some (none, { val := .pv (.sc .b (decide (a = b))), blks := [], flat := true, roots := [] })
  | _, _ => none
set_option maxHeartbeats 1000000 in
theorem bytes_Equal_walk {β : Nat → Value} {S : Nat → Prop} {L : Nat → Option Blk} {w : World} {xs ys : List UInt8} {v u : Value} (hv : RepA β S w.heap L (.pv (.sl .u8 xs)) v) (hu : RepA β S w.heap L (.pv (.sl .u8 ys)) u) :
    Calls Try.prog 28 #[v, u] w fun e w' => e = .returned (.bool (decide (xs = ys))) ∧ w' = w := by
  have h1 := conv_bytes hv 27 5 9 (P := Try.prog) (by kernel_rfl) (by kernel_rfl) (by kernel_rfl)
  have h2 := conv_bytes hu 27 5 9 (P := Try.prog) (by kernel_rfl) (by kernel_rfl) (by kernel_rfl)
  clear hv hu
  have hb : (xs == ys) = decide (xs = ys) := by
    rw [Bool.eq_iff_iff]
    simp
  go_enter Try.func28, Try.ntmps28
  go_wp2
  go_ret
  exact ⟨by simp, rfl⟩
theorem bytes_Equal_ok : FnOK Try.prog noG 28 (unW bytes_Equal_c) := by
  intro w β S F args mem vals out ho hG M hr
  obtain ⟨p, h1, _⟩ := unW_some ho
  unfold bytes_Equal_c at h1
  split at h1
  · cases h1
    obtain ⟨l⟩ := vals
    cases hr with
    | cons a hr =>
      cases hr with
      | cons b hr =>
        cases hr
        refine (bytes_Equal_walk a b).mono fun e w' ⟨he, hw⟩ => ?_
        subst he hw
        exact ⟨⟨_, β, (fun _ => False), rfl, fun _ _ h => h, fun _ h => h.elim, (fun h => by cases h), MS.empty _ (fun _ h => h.elim) _ _, RepA.sc .b _, fun _ _ h => by cases h⟩, Nat.le_refl _, fun _ _ _ => rfl, rfl, rfl, rfl⟩
  · cases h1

end
end Go.Proofs.Ytpgpagmnhikpiaa.M

namespace Go.Proofs.Ytpgpagmnhikpiaa.M
open Go Go.RowKit
noncomputable section
set_option maxRecDepth 100000
def bytes_Clone_c : Ans
  | [.pv (.sl .u8 a)], [] => some (some (a.length ≤ 140737488351232), { val := .o 60000, blks := [(60000, .row (.s .u8 a) false)], flat := true, roots := [] })
  | _, _ => none
set_option maxHeartbeats 2000000 in
theorem bytes_Clone_at (a : Addr) (n c : Nat) (xs : List UInt8) (w : World) (hx : xs.length = n) (hbig : n ≤ 140737488351232) (hc : ∀ i, i < n → w.cell? (a.add i) = some (.int .u8 ((xs.getD i 0).toNat : Int))) :
    Calls Try.prog 31 #[.slice (some a) n c] w fun e w' => ∃ v', e = .returned v' ∧ w'.ownsRow w.heap.size 5 1 v' n (xs.map EK.u8.enc) ∧ Below w.heap.size w w' := by
  have t27 : Try.prog.underlying 27 = some (.slice 5) := by kernel_rfl
  obtain ⟨i0, hi, hz0, hz1, hz2⟩ := info_parts (P := Try.prog) (e := 5) (z := .int .u8 0) (size := 1) (bytes := 1) (by kernel_rfl)
  have q22 : ∀ (w : World) (a : Option Addr) (n c n' c' : Nat), (binOp .eql 27 (.slice a n c) (.slice none n' c')).run Try.prog w = .ok (.bool a.isNone) w := fun w a n c n' c' => Lib.run_eql_slice_nil w _ _ a n c n' c' t27
  have A : Hid (∀ i, i < n → w.cell? (a.add i) = some (.int .u8 ((xs.getD i 0).toNat : Int))) := hc
  clear hc
  go_enter Try.func31, Try.ntmps31
  go_wp2_with (at_builtin; refine wpList_append_own _ rfl _ _ 27 rfl w.heap.size 5 i0 (.int .u8 0) 1 1 t27 hi hz0 hz1 hz2 rfl (by decide) _ _ _ rfl (World.ownsRow_made w #[] 0 (Nat.le_refl _) (Nat.zero_le _) rfl) a n c (xs.map EK.u8.enc) rfl ?qc1 ?qc2 ?qc3 ?qc4 ?qc5 ?qc6 ?_)
  case qc1 => simp; omega
  case qc2 =>
    intro j u hj
    have hjn : j < n := by
      have := (List.getElem?_eq_some_iff.1 hj).1
      simp at this
      omega
    refine Lib.cell?_alloc_some _ ?_
    rw [A.out j hjn]
    have e : (xs.map EK.u8.enc)[j]? = some (Value.int .u8 ((xs.getD j 0).toNat : Int)) := by
      simp [List.getD, List.getElem?_eq_getElem (show j < xs.length by omega)]
      rfl
    rw [e] at hj
    exact hj
  case qc3 => intro u hu; obtain ⟨x, _, rfl⟩ := List.mem_map.1 hu; rfl
  case qc4 => unfold maxLen; omega
  case qc5 => omega
  case qc6 => simp
  intro v' w1 hown hgrow hnil
  go_wp2
  go_ret
  refine ⟨v', rfl, by simpa using hown, ?_⟩
  · exact ((Below.refl _ w).alloc (Nat.le_refl _) _).grown hgrow (by simp) (by intro k hk; simp [Value.ownBlock] at hk; omega)

set_option maxHeartbeats 1000000 in
theorem bytes_Clone_nil (n c : Nat) (w : World) : Calls Try.prog 31 #[.slice none n c] w fun e w' => e = .returned (.slice none 0 0) ∧ w' = w := by
  have t27 : Try.prog.underlying 27 = some (.slice 5) := by kernel_rfl
  have q22 : ∀ (w : World) (a : Option Addr) (n c n' c' : Nat), (binOp .eql 27 (.slice a n c) (.slice none n' c')).run Try.prog w = .ok (.bool a.isNone) w := fun w a n c n' c' => Lib.run_eql_slice_nil w _ _ a n c n' c' t27
  go_enter Try.func31, Try.ntmps31
  go_wp2
  go_ret
  exact ⟨rfl, rfl⟩
theorem bytes_Clone_ok : FnOK Try.prog noG 31 (unW bytes_Clone_c) := by
  intro w β S F args mem vals out ho hG M hr
  obtain ⟨p, h1, hp⟩ := unW_some ho
  unfold bytes_Clone_c at h1
  split at h1
  · rename_i xs
    cases h1
    have hp : xs.length ≤ 140737488351232 := hp
    obtain ⟨l⟩ := vals
    cases hr with
    | cons a hr =>
      cases hr
      obtain ⟨vs, rp, rfl⟩ := a.pv_inv
      clear a
      have hS : ∀ b, S b → b < w.heap.size := M.bound
      cases rp with
      | sl hle hc =>
        rename_i ad cap
        cases ad with
        | none =>
          have hxs : xs = [] := by
            rcases hc with h | ⟨b, off, h, _⟩
            · exact h
            · cases h
          subst hxs
          refine (bytes_Clone_nil 0 cap w).mono fun e w' ⟨he, hw⟩ => ?_
          subst he hw
          have M' : MS (fun _ => Value.slice none 0 0) (fun _ => False) w'.heap w'.heap.size F (lk [(60000, Blk.row (.s .u8 []) false)]) := by
            refine ⟨fun n b hb => ?_, fun n b hb k hk => hk.elim, fun n m _ _ _ k hk => hk.elim, fun k hk => hk.elim⟩
            rw [lk_cons] at hb
            split at hb
            · cases hb
              exact ⟨none, 0, rfl, Nat.le_refl _, (fun h => by cases h), .inl rfl⟩
            · cases hb
          exact ⟨⟨_, _, (fun _ => False), rfl, fun _ _ h => h, fun _ h => h.elim, (fun h => by cases h), M', ⟨_, .o (n := 60000) (by rw [lk_cons, if_pos rfl]) rfl, rfl⟩, fun _ _ h => by cases h⟩, Nat.le_refl _, fun _ _ _ => rfl, rfl, rfl, rfl⟩
        | some ad =>
          refine (bytes_Clone_at ad xs.length cap xs w rfl hp (fun i hi => ?_)).mono fun e w' ⟨v', he, hown, hb⟩ => ?_
          · rcases hc with h | ⟨b, off, h, _, c, T, fz, g1, g2⟩
            · subst h; simp at hi
            · cases h
              have := g2 i (EK.u8.enc (xs.getD i 0)) (by simp [List.getD, hi])
              have ha : (⟨b, off, none⟩ : Addr).add i = ⟨b, off + i, none⟩ := by
                unfold Addr.add
                split
                · rename_i e; subst e; rfl
                · rfl
              rw [ha]
              simp only [World.cell?, g1]
              rw [if_neg (by simp), this]
              rfl
          · subst he
            obtain ⟨hl, hv⟩ := hown
            have hsz := hb.size
            rcases hv with ⟨rfl, h0⟩ | ⟨g, cap', cur, rfl, h1, h2, h3, h4, h5, h6⟩
            · have hxs : xs = [] := List.length_eq_zero_iff.1 h0
              subst hxs
              have M' : MS (fun _ => Value.slice none 0 0) (fun _ => False) w'.heap w.heap.size F (lk [(60000, Blk.row (.s .u8 []) false)]) := by
                refine ⟨fun n b hb => ?_, fun n b hb k hk => hk.elim, fun n m _ _ _ k hk => hk.elim, fun k hk => hk.elim⟩
                rw [lk_cons] at hb
                split at hb
                · cases hb
                  exact ⟨none, 0, rfl, Nat.le_refl _, (fun h => by cases h), .inl rfl⟩
                · cases hb
              exact ⟨⟨_, _, (fun _ => False), rfl, fun _ _ h => h, fun _ h => h.elim, (fun h => by cases h), M', ⟨_, .o (n := 60000) (by rw [lk_cons, if_pos rfl]) rfl, rfl⟩, fun _ _ h => by cases h⟩, hsz, fun b h _ => hb.block b h, hb.os, hb.tape, hb.output⟩
            · have hg : g < w'.heap.size := (Array.getElem?_eq_some_iff.1 h2).1
              have M' : MS (fun _ => Value.slice (some ⟨g, 0, none⟩) xs.length cap') (fun _ => False) w'.heap w.heap.size F (lk [(60000, Blk.row (.s .u8 xs) false)]) := by
                refine ⟨fun n b hb => ?_, fun n b hb k hk => ⟨fun h => h, ?_⟩, fun n m hne h h' k hk => ?_, fun k hk => hk.elim⟩
                · rw [lk_cons] at hb
                  split at hb
                  · cases hb
                    refine ⟨_, cap', rfl, h3, (fun h => by cases h), .inr ⟨g, 0, cur, _, rfl, h2, by simp [RC.sz, h5], [], xs.map EK.u8.enc, cur.toList.drop xs.length, ?_, rfl, .s .u8 xs⟩⟩
                    rw [List.nil_append]
                    rw [Nat.mul_one] at h6
                    rw [← h6, List.take_append_drop]
                  · cases hb
                · obtain ⟨_, rfl⟩ := hk
                  exact ⟨hg, .inl h1⟩
                · exfalso
                  rw [lk_cons] at h h'
                  split at h
                  · split at h'
                    · omega
                    · cases h'
                  · cases h
              exact ⟨⟨_, _, (fun _ => False), rfl, fun _ _ h => h, fun _ h => h.elim, (fun h => by cases h), M', ⟨_, .o (n := 60000) (by rw [lk_cons, if_pos rfl]) rfl, rfl⟩, fun _ _ h => by cases h⟩, hsz, fun b h _ => hb.block b h, hb.os, hb.tape, hb.output⟩
  · cases h1

end
end Go.Proofs.Ytpgpagmnhikpiaa.M
