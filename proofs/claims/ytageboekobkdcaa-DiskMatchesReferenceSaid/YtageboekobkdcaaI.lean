/- Disk: New. -/
import Derived.Test.YtageboekobkdcaaH
namespace Go.Proofs.Ytageboekobkdcaa
open Go.RowKit

theorem new_none (n : Int) (w : World) (h : n < 1 ∨ 4000 < n) : Calls Try.prog 12 #[.int .i64 n] w fun e w' => e = .returned (.pointer none) ∧ w = w' := by
  by_cases h1 : n < 1
  · have t : decide (n < 1) = true := by simpa using h1
    clear h
    go_enter Try.func12, Try.ntmps12
    go_wp2
    go_ret
    exact ⟨rfl, rfl⟩
  · have t : decide (n < 1) = false := by simpa using h1
    have t2 : decide (4000 < n) = true := by simp; omega
    clear h
    go_enter Try.func12, Try.ntmps12
    go_wp2
    go_ret
    exact ⟨rfl, rfl⟩

def zeros (n : Nat) : Array Value := (flat (fun _ => z64) n).toArray
theorem made_zeros (n : Nat) : madeCells (Value.int IntKind.u8 0).cells (n * 64) = zeros n := by
  apply Array.ext'
  have h := toList_madeCells_one (Value.int IntKind.u8 0) (n * 64)
  show (madeCells #[Value.int IntKind.u8 0] (n * 64)).toList = _
  rw [h]
  unfold zeros
  apply List.ext_getElem?
  intro k
  by_cases hk : k < n * 64
  · have e : k / 64 * 64 + k % 64 = k := by omega
    have := flat_get (fun _ => z64) (fun _ => z64_length) n (k / 64) (k % 64) (by omega) (Nat.mod_lt _ (by omega))
    rw [e] at this
    rw [List.getElem?_replicate, if_pos hk, this, List.getD_eq_getElem?_getD, z64_get _ (Nat.mod_lt _ (by omega))]
    rfl
  · rw [List.getElem?_eq_none (by rw [List.length_replicate]; omega), List.getElem?_eq_none (by rw [List.toList_toArray, flat_length _ (fun _ => z64_length)]; omega)]
theorem run_make_zeros (n : Nat) (h2 : n ≤ 4000) (W : World) : (Instr.makeSlice 57 (.int .i64 ((n : Int) * 64)) (.int .i64 ((n : Int) * 64))).run Try.prog W =
    .ok (.slice (some ⟨W.heap.size, 0, none⟩) (n * 64) (n * 64)) (W.alloc (.cells (zeros n) 5)) := by
  obtain ⟨i0, hi0, hz0, hz1, hz2⟩ := info_parts Try.info5
  have h := run_make (P := Try.prog) W 57 5 i0 _ Try.underlying57 hi0 hz0 .i64 .i64 ((n : Int) * 64) ((n : Int) * 64) (by omega) (by omega) (by rw [hz2]; omega) (by omega)
  rw [h, hz1]
  have e : ((n : Int) * 64).toNat = n * 64 := by omega
  rw [e, Nat.mul_one, made_zeros]

/-- A new disk, its three blocks in a row. -/
theorem new_disk (w : World) (n : Nat) (h1 : 1 ≤ n) (h2 : n ≤ 4000) (bs be : Nat) (hbs : bs = w.heap.size ∨ bs = w.heap.size + 1) (hbe : be = w.heap.size ∨ be = w.heap.size + 1) (hne : bs ≠ be) :
    ∃ h : DH, h.b = w.heap.size + 2 ∧ DiskAt ((((w.alloc (.cells (zeros n) 5)).alloc (.cells (zeros n) 5)).alloc (.cells #[.slice (some ⟨bs, 0, none⟩) (n * 64) (n * 64), .slice (some ⟨be, 0, none⟩) (n * 64) (n * 64), .slice none 0 0, .bool false, .pointer none] 61)).drew) h (DS.new n) ∧
      Chg (fun _ => False) w ((((w.alloc (.cells (zeros n) 5)).alloc (.cells (zeros n) 5)).alloc (.cells #[.slice (some ⟨bs, 0, none⟩) (n * 64) (n * 64), .slice (some ⟨be, 0, none⟩) (n * 64) (n * 64), .slice none 0 0, .bool false, .pointer none] 61)).drew) ∧ ∀ k, h.own k → w.heap.size ≤ k := by
  obtain ⟨A, hA⟩ : ∃ A, A = Obj.cells (zeros n) 5 := ⟨_, rfl⟩
  obtain ⟨C, hC⟩ : ∃ C, C = Obj.cells #[.slice (some ⟨bs, 0, none⟩) (n * 64) (n * 64), .slice (some ⟨be, 0, none⟩) (n * 64) (n * 64), .slice none 0 0, .bool false, .pointer none] 61 := ⟨_, rfl⟩
  rw [← hA, ← hC]
  have g0 : (((w.alloc A).alloc A).alloc C).drew.heap[w.heap.size]? = some A := by
    rw [heap_drew, Below.heap_alloc _ _ _ (by simp; omega), Below.heap_alloc _ _ _ (by simp)]; exact heap_alloc_new _ _
  have g1 : (((w.alloc A).alloc A).alloc C).drew.heap[w.heap.size + 1]? = some A := by
    have e : w.heap.size + 1 = (w.alloc A).heap.size := by simp
    rw [heap_drew, Below.heap_alloc _ _ _ (by simp), e]; exact heap_alloc_new _ _
  have g2 : (((w.alloc A).alloc A).alloc C).drew.heap[w.heap.size + 2]? = some C := by
    have e : w.heap.size + 2 = ((w.alloc A).alloc A).heap.size := by simp
    rw [heap_drew, e]; exact heap_alloc_new _ _
  refine ⟨{ b := w.heap.size + 2, bs, be, qv := .slice none 0 0, av := none }, rfl, ⟨?_, ?_, ?_, World.ownsRow_nil _ _ _ _, trivial, ⟨?_, ?_, hne, by simp [Value.ownBlock], by simp⟩, DS.wf.new h1 h2⟩, (((Chg.refl _ _).alloc _).alloc _).alloc _ |>.drew, ?_⟩
  · show _ = some (Obj.cells (diskCells _ (DS.new n)) 61 (0, 0))
    rw [g2, hC]; rfl
  · show (((w.alloc A).alloc A).alloc C).drew.heap[bs]? = _
    rcases hbs with rfl | rfl
    · rw [g0, hA]; rfl
    · rw [g1, hA]; rfl
  · show (((w.alloc A).alloc A).alloc C).drew.heap[be]? = _
    rcases hbe with rfl | rfl
    · rw [g0, hA]; rfl
    · rw [g1, hA]; rfl
  · show w.heap.size + 2 ≠ bs
    omega
  · show w.heap.size + 2 ≠ be
    omega
  · intro k hk
    rcases hk with hk | hk | hk | hk | hk
    · have : k = w.heap.size + 2 := hk
      omega
    · have : k = bs := hk
      omega
    · have : k = be := hk
      omega
    · simp [Value.ownBlock] at hk
    · simp at hk

/-- What New leaves. -/
def NewDisk (n : Nat) (w : World) (e : Ending) (w' : World) : Prop := ∃ h : DH, e = .returned (.pointer (some ⟨h.b, 0, none⟩)) ∧ DiskAt w' h (DS.new n) ∧ Chg (fun _ => False) w w' ∧ ∀ k, h.own k → w.heap.size ≤ k

set_option maxHeartbeats 1000000 in
theorem new_some (n : Nat) (w : World) (h1 : 1 ≤ n) (h2 : n ≤ 4000) : Calls Try.prog 12 #[.int .i64 (n : Int)] w (NewDisk n w) := by
  have t : decide ((n : Int) < 1) = false := by simp; omega
  have t2 : decide (4000 < (n : Int)) = false := by simp; omega
  have hmk := fun W => run_make_zeros n h2 W
  go_enter Try.func12, Try.ntmps12
  go_wp2
  go_region
  all_goals go_wp2
  · go_ret
    obtain ⟨h, hb, d, c, o⟩ := new_disk w n h1 h2 w.heap.size (w.heap.size + 1) (.inl rfl) (.inr rfl) (by omega)
    exact ⟨h, by rw [hb]; rfl, d, c, o⟩
  · go_ret
    obtain ⟨h, hb, d, c, o⟩ := new_disk w n h1 h2 (w.heap.size + 1) w.heap.size (.inr rfl) (.inl rfl) (by omega)
    exact ⟨h, by rw [hb]; rfl, d, c, o⟩

end Go.Proofs.Ytageboekobkdcaa
