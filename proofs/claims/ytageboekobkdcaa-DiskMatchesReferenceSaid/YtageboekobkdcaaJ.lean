/- The law's helpers: text, fill, size, ok. -/
import Derived.Test.YtageboekobkdcaaI
namespace Go.Proofs.Ytageboekobkdcaa
open Go.RowKit

structure AC where
  kind : Int
  sector : Int
  bytes : Int
  text : ByteArray
  odd : Bool
  after : Int
def AC.cells (a : AC) : List Value := [.int .i64 a.kind, .int .i64 a.sector, .int .i64 a.bytes, .string a.text, .bool a.odd, .int .i64 a.after]
def AC.val (a : AC) : Value := .agg a.cells.toArray

/-- A text repeated k times. -/
def reps (t : List UInt8) : Nat → List UInt8
  | 0 => []
  | k + 1 => reps t k ++ t
theorem reps_length (t : List UInt8) (k : Nat) : (reps t k).length = k * t.length := by
  induction k with
  | zero => simp [reps]
  | succ k ih => rw [reps, List.length_append, ih]; rw [Nat.add_mul]; omega
theorem reps_take (t : List UInt8) (k j : Nat) (h : 64 ≤ k * t.length) : (reps t (k + j)).take 64 = (reps t k).take 64 := by
  induction j with
  | zero => rfl
  | succ j ih =>
    rw [show k + (j + 1) = (k + j) + 1 by omega, reps, List.take_append_of_le_length, ih]
    rw [reps_length]
    calc 64 ≤ k * t.length := h
      _ ≤ (k + j) * t.length := Nat.mul_le_mul_right _ (by omega)
/-- The text of a write. -/
def AC.txt (a : AC) : ByteArray := if a.odd || a.text.size == 0 then a.text else mkB ((reps (ba a.text) 64).take 64)
theorem AC.txt_size (a : AC) : (a.odd || a.text.size == 0) = false → a.txt.size = 64 := by
  intro h
  unfold AC.txt
  rw [h]
  have h0 : 1 ≤ a.text.size := by rw [Bool.or_eq_false_iff, beq_eq_false_iff_ne] at h; omega
  simp only [Bool.false_eq_true, if_false]
  rw [size_mkB, List.length_take, reps_length, ba_length]
  omega
theorem AC.txt_le (a : AC) (h : a.text.size ≤ 100) : a.txt.size ≤ 100 := by
  by_cases hb : (a.odd || a.text.size == 0) = false
  · rw [a.txt_size hb]; omega
  · unfold AC.txt; rw [if_pos (by cases hc : (a.odd || a.text.size == 0) with | true => rfl | false => exact absurd hc hb)]; exact h

theorem ba_append (s t : ByteArray) : ba (s ++ t) = ba s ++ ba t := by simp [ba]
theorem eq_of_ba {s t : ByteArray} (h : ba s = ba t) : s = t := by rw [← mkB_ba s, ← mkB_ba t, h]

set_option maxHeartbeats 1000000 in
theorem text_odd (a : AC) (w : World) (h : a.odd = true) :
    Calls Try.prog 23 #[.agg #[.int .i64 a.kind, .int .i64 a.sector, .int .i64 a.bytes, .string a.text, .bool a.odd, .int .i64 a.after]] w fun e w' => e = .returned (.string a.text) ∧ Chg (fun _ => False) w w' := by
  rw [h]
  clear h
  go_enter Try.func23, Try.ntmps23
  go_wp2
  go_ret
  exact ⟨rfl, (Chg.refl _ _).alloc _⟩

set_option maxHeartbeats 1000000 in
theorem text_empty (a : AC) (w : World) (h : a.odd = false) (h0 : a.text.size = 0) :
    Calls Try.prog 23 #[.agg #[.int .i64 a.kind, .int .i64 a.sector, .int .i64 a.bytes, .string a.text, .bool a.odd, .int .i64 a.after]] w fun e w' => e = .returned (.string a.text) ∧ Chg (fun _ => False) w w' := by
  rw [h]
  have t1 : a.text.toList = [] := by
    rw [ByteArray.toList_eq]
    exact List.eq_nil_of_length_eq_zero (by rw [← ba, ba_length]; exact h0)
  have t2 : (!a.text.toList.isEmpty) = false := by rw [t1]; rfl
  obtain ⟨t, ht⟩ : ∃ t, t = a.text := ⟨_, rfl⟩
  rw [← ht] at t1 t2 ⊢
  clear h h0 ht
  go_enter Try.func23, Try.ntmps23
  go_wp2
  go_ret
  exact ⟨rfl, (Chg.refl _ _).alloc _⟩

def strLeft : Value → Nat
  | .string s => 64 - s.size
  | _ => 0

set_option maxHeartbeats 1000000 in
theorem text_full (a : AC) (w : World) (h : a.odd = false) (h0 : a.text.size ≠ 0) (h1 : a.text.size ≤ 100) :
    Calls Try.prog 23 #[.agg #[.int .i64 a.kind, .int .i64 a.sector, .int .i64 a.bytes, .string a.text, .bool a.odd, .int .i64 a.after]] w fun e w' => e = .returned (.string (mkB ((reps (ba a.text) 64).take 64))) ∧ Chg (fun _ => False) w w' := by
  rw [h]
  have t2 : a.text.toList.isEmpty = false := by
    rw [ByteArray.toList_eq]
    cases hl : a.text.data.toList with
    | nil => exact absurd (by rw [← ba_length, ba, hl]; rfl) h0
    | cons => rfl
  obtain ⟨t, ht⟩ : ∃ t, t = a.text := ⟨_, rfl⟩
  have hl := ba_length a.text
  rw [← ht] at t2 h0 h1 hl ⊢
  have Hl := Lib.hid hl
  have ht1 : 1 ≤ t.size := by omega
  clear h h0 ht hl
  go_enter Try.func23, Try.ntmps23
  go_wp2
  go_loop [3] (fun s => ∃ (k : Nat) (S : ByteArray), Hid (ba S = reps (ba t) k) ∧ S.size ≤ 200 ∧ s = .string S) (fun s => strLeft s)
  case atStart => exact ⟨0, ByteArray.empty, rfl, by decide, rfl⟩
  case round =>
    obtain ⟨k, S, hS, hS2, rfl⟩ := hrel
    by_cases hlt : S.size < 64
    · go_wp2
      go_round
      case rel =>
        refine ⟨k + 1, S ++ t, ?_, ?_, rfl⟩
        · show ba (S ++ t) = reps (ba t) (k + 1)
          rw [ba_append, hS.out]; rfl
        · rw [ByteArray.size_append]; omega
      case measure => simp only [strLeft, ByteArray.size_append]; omega
    · go_wp2
      go_ret
      refine ⟨?_, (Chg.refl _ _).alloc _⟩
      have e : S.extract 0 64 = mkB ((reps (ba t) 64).take 64) := by
        apply eq_of_ba
        rw [ba_mkB, ba_extract, hS.out]
        have hk : 64 ≤ k * (ba t).length := by rw [← reps_length, ← hS.out, ba_length]; omega
        have h64 : 64 ≤ 64 * (ba t).length := by rw [Hl.out]; omega
        have e1 := reps_take (ba t) k (max k 64 - k) hk
        have e2 := reps_take (ba t) 64 (max k 64 - 64) h64
        rw [show k + (max k 64 - k) = max k 64 by omega] at e1
        rw [show 64 + (max k 64 - 64) = max k 64 by omega] at e2
        rw [← e1, e2]
      exact congrArg (fun s => Ending.returned (Value.string s)) e

/-- text, whatever the operation. -/
theorem text_ok (a : AC) (w : World) (h1 : a.text.size ≤ 100) :
    Calls Try.prog 23 #[.agg #[.int .i64 a.kind, .int .i64 a.sector, .int .i64 a.bytes, .string a.text, .bool a.odd, .int .i64 a.after]] w fun e w' => e = .returned (.string a.txt) ∧ Chg (fun _ => False) w w' := by
  by_cases ho : a.odd = true
  · have e : a.txt = a.text := by simp [AC.txt, ho]
    rw [e]; exact text_odd a w ho
  · have ho' : a.odd = false := by simpa using ho
    by_cases h0 : a.text.size = 0
    · have e : a.txt = a.text := by unfold AC.txt; rw [ho', h0]; rfl
      rw [e]; exact text_empty a w ho' h0
    · have e : a.txt = mkB ((reps (ba a.text) 64).take 64) := by
        unfold AC.txt; rw [ho', beq_eq_false_iff_ne.2 h0]; rfl
      rw [e]; exact text_full a w ho' h0 h1

/-- fill. -/
def fillOf (s : ByteArray) : ByteArray := (AC.mk 0 0 0 s false 0).txt
set_option maxHeartbeats 1000000 in
theorem fill_ok (s : ByteArray) (w : World) (h1 : s.size ≤ 100) : Calls Try.prog 27 #[.string s] w fun e w' => e = .returned (.string (fillOf s)) ∧ Chg (fun _ => False) w w' := by
  have T := fun w => text_ok ⟨0, 0, 0, s, false, 0⟩ w h1
  have HT := Lib.hid T
  clear T
  go_enter Try.func27, Try.ntmps27
  go_wp2_with (go_at_call 23; refine (HT.out _).mono ?_; rintro e w1 ⟨rfl, c1⟩)
  go_ret
  exact ⟨rfl, c1⟩

theorem ret_int {k : IntKind} {a b : Int} (h : a = b) : Ending.returned (.int k a) = .returned (.int k b) := by rw [h]
theorem size_ok (r : Nat) (w : World) (h : r < 256) : Calls Try.prog 13 #[.int .u8 (r : Int)] w fun e w' => e = .returned (.int .i64 ((1 + r % 12 : Nat) : Int)) ∧ w = w' := by
  go_enter Try.func13, Try.ntmps13
  go_wp2
  go_ret
  exact ⟨ret_int (by omega), rfl⟩

end Go.Proofs.Ytageboekobkdcaa
