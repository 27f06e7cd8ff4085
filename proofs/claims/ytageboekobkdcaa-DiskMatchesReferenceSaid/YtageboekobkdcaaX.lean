/- Plain laws for DiskStable and DiskPrefix; a slice of bools. -/
import Derived.Test.YtageboekobkdcaaV
namespace Go.Proofs.Ytageboekobkdcaa
open Go.RowKit

theorem lastOf_cons (p : Nat × ByteArray) (l : List (Nat × ByteArray)) (i : Nat) : lastOf (p :: l) i = (lastOf l i).or (if p.1 = i then some p.2 else none) := by
  unfold lastOf
  rw [List.reverse_cons, List.find?_append]
  cases h : List.find? (fun p => p.1 == i) l.reverse with
  | some x => rfl
  | none =>
    by_cases hp : p.1 = i
    · simp [hp]
    · simp [hp]
theorem lastOf_snoc (p : Nat × ByteArray) (l : List (Nat × ByteArray)) (i : Nat) : lastOf (l ++ [p]) i = if p.1 = i then some p.2 else lastOf l i := by
  unfold lastOf
  rw [List.reverse_append]
  by_cases hp : p.1 = i
  · simp [hp]
  · simp [hp]
theorem over_full (t s : List UInt8) (h : t.length = s.length) : over t s = t := by
  unfold over; rw [List.drop_eq_nil_of_le (by omega), List.append_nil]
theorem DS.settle_st (l : List (Nat × ByteArray)) (i : Nat) : ∀ D : DS, (∀ k, (D.st k).length = 64) → (∀ p ∈ l, p.2.size = 64) → (D.settle l).st i = ba ((lastOf l i).getD (mkB (D.st i))) := by
  induction l with
  | nil => intro D _ _; show D.st i = _; rw [show lastOf [] i = none from rfl, Option.getD_none, ba_mkB]
  | cons p l ih =>
    intro D hD hl
    have hp := hl p (by simp)
    have hlen : (over (ba p.2) (D.st p.1)).length = 64 := by rw [over_length _ _ (by rw [ba_length, hD, hp]; exact Nat.le_refl _), hD]
    show ((D.set p.1 (ba p.2)).settle l).st i = _
    rw [ih (D.set p.1 (ba p.2)) (fun k => by
      show (upd D.st p.1 (over (ba p.2) (D.st p.1)) k).length = 64
      simp only [upd]; split
      · exact hlen
      · exact hD k) (fun q hq => hl q (by simp [hq])), lastOf_cons]
    cases h : lastOf l i with
    | some x => rfl
    | none =>
      show ba (mkB (upd D.st p.1 (over (ba p.2) (D.st p.1)) i)) = _
      rw [ba_mkB, over_full _ _ (by rw [ba_length, hD, hp])]
      by_cases hpi : p.1 = i
      · subst hpi; rw [upd_same, if_pos rfl]; rfl
      · rw [upd_other _ _ _ _ (Ne.symm hpi), if_neg hpi]
        show _ = ba (mkB (D.st i))
        rw [ba_mkB]
theorem DS.settle_other (l : List (Nat × ByteArray)) (i : Nat) : ∀ D : DS, (∀ p ∈ l, p.1 ≠ i) → (D.settle l).st i = D.st i := by
  induction l with
  | nil => intro D _; rfl
  | cons p l ih =>
    intro D hl
    show ((D.set p.1 (ba p.2)).settle l).st i = _
    rw [ih _ (fun q hq => hl q (by simp [hq]))]
    exact upd_other _ _ _ _ (Ne.symm (hl p (by simp)))
/-- A failure leaves the sectors that no pending write names. -/
theorem DS.fail_other (D : DS) (ho : D.off = false) (x y : Int) (i : Nat) (h : ∀ p ∈ D.q, p.1 ≠ i) : (D.fail x y).start.peek i = mkB (D.st i) := by
  rw [DS.peek_nil _ (by unfold DS.fail; rw [ho]; rfl)]
  congr 1
  unfold DS.fail
  rw [ho]
  show ((D.settle (D.q.take (cut x D.q.length))).torn D.q[cut x D.q.length]? y).st i = _
  have hs := DS.settle_other (D.q.take (cut x D.q.length)) i D (fun p hp => h p (List.mem_of_mem_take hp))
  cases hq : D.q[cut x D.q.length]? with
  | none => exact hs
  | some p =>
    have hp : p.1 ≠ i := h p (List.mem_of_getElem? hq)
    unfold DS.torn
    dsimp only
    split
    · show upd _ _ _ i = _
      rw [upd_other _ _ _ _ (Ne.symm hp)]; exact hs
    · exact hs

/-! A slice of bools. -/
theorem Try.info4 : (Try.prog.info? 4).map (fun i => (i.zero, i.size, i.bytes)) = some (some (.bool false), 1, 1) := by kernel_rfl
theorem Try.under42 : Try.prog.underlying 42 = some (.slice 4) := by kernel_rfl
def boolCells (n : Nat) (f : Nat → Bool) : Array Value := ((List.range n).map fun i => Value.bool (f i)).toArray
theorem boolCells_get (n : Nat) (f : Nat → Bool) (i : Nat) (h : i < n) : (boolCells n f)[i]? = some (.bool (f i)) := by
  simp [boolCells, h]
theorem boolCells_set (n : Nat) (f : Nat → Bool) (i : Nat) : (boolCells n f).setIfInBounds i (.bool true) = boolCells n (upd f i true) := by
  apply Array.ext'
  apply List.ext_getElem?
  intro k
  unfold boolCells
  simp only [Array.toList_setIfInBounds, List.getElem?_set, List.getElem?_map, List.length_map, List.length_range, upd]
  by_cases hk : k < n
  · by_cases hik : i = k
    · subst hik; simp [hk]
    · simp [hk, hik, Ne.symm hik]
  · have : (List.range n)[k]? = none := by simp; omega
    simp [this]
    intro h; omega
theorem run_make_bools (n : Nat) (h2 : n ≤ 4000) (W : World) : (Instr.makeSlice 42 (.int .i64 (n : Int)) (.int .i64 (n : Int))).run Try.prog W =
    .ok (.slice (some ⟨W.heap.size, 0, none⟩) n n) (W.alloc (.cells (boolCells n fun _ => false) 4)) := by
  obtain ⟨i0, hi0, hz0, hz1, hz2⟩ := info_parts Try.info4
  have h := run_make (P := Try.prog) W 42 4 i0 _ Try.under42 hi0 hz0 .i64 .i64 (n : Int) (n : Int) (by omega) (by omega) (by rw [hz2]; omega) (by omega)
  rw [h, hz1]
  have e : ((n : Int)).toNat = n := by omega
  rw [e, Nat.mul_one]
  have e2 : madeCells (Value.bool false).cells n = boolCells n fun _ => false := by
    apply Array.ext'
    have h := toList_madeCells_one (Value.bool false) n
    show (madeCells #[Value.bool false] n).toList = _
    rw [h]
    unfold boolCells
    apply List.ext_getElem?
    intro k
    by_cases hk : k < n
    · simp [hk]
    · rw [List.getElem?_eq_none (by rw [List.length_replicate]; omega), List.getElem?_eq_none (by simp; omega)]
  rw [e2]
end Go.Proofs.Ytageboekobkdcaa
