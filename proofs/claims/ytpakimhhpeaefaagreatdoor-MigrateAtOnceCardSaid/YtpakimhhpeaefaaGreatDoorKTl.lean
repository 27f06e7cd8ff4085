/- schema.Convert, the ways that end before the change's own function: contracts. Conditions: none. -/
import Derived.Test.YtpakimhhpeaefaaGreatDoorKTj
import Derived.Test.YtpakimhhpeaefaaGreatDoorKTk
set_option linter.unusedSimpArgs false
set_option linter.unusedVariables false
namespace Go.Proofs.YtpakimhhpeaefaaGreatDoor
open Go.RowKit

theorem cloneV' (h : Hd) (l : List V) (w : World) (a : Lies w 3 h V.cells l) (hn : h.n ≤ 1000000000) :
    Calls Tryz.prog 57 #[h.val] w fun e w' => ∃ A c, e = .returned (.slice A l.length c) ∧ Same w w' ∧ w'.ownsRow w.heap.size 26 3 (.slice A l.length c) l.length (l.flatMap V.cells) := by
  refine (cloneV_ok h V.cells V.clen V.one l w a hn).mono ?_
  rintro e1 w' (⟨rfl, rfl, s⟩ | ⟨c, g, rfl, s, o⟩)
  · exact ⟨none, 0, rfl, s, rfl, .inl ⟨rfl, rfl⟩⟩
  · exact ⟨_, c, rfl, s, o⟩
theorem row_none (w : World) : RowAt w ⟨none, 0, 0⟩ [] := ⟨⟨rfl, by show (0 : Nat) ≤ _; omega, fun k hk => by simp at hk⟩, fun s hs => by simp at hs⟩
theorem row_own {w : World} {B n c : Nat} {A : Option Addr} {l : List V} (o : w.ownsRow B 26 3 (.slice A n c) n (l.flatMap V.cells)) (hl : l.length = n) (hn : n ≤ 9223372036854775807) (hs : ∀ v ∈ l, okS v.s) : RowAt w ⟨A, n, c⟩ l :=
  ⟨own_lies' (h := ⟨A, n, c⟩) V.clen hl hn o, hs⟩
theorem effV_form (k : Int) : ∃ x0 x1 x2 x3, effV k = .agg #[x0, x1, x2, x3] ∧ x0.oneCell' = true ∧ x1.oneCell' = true ∧ x2.oneCell' = true ∧ x3.oneCell' = true := by
  unfold effV
  split
  · exact ⟨_, _, _, _, rfl, rfl, rfl, rfl, rfl⟩
  split
  · exact ⟨_, _, _, _, rfl, rfl, rfl, rfl, rfl⟩
  split
  · exact ⟨_, _, _, _, rfl, rfl, rfl, rfl, rfl⟩
  split
  · exact ⟨_, _, _, _, rfl, rfl, rfl, rfl, rfl⟩
  · exact ⟨_, _, _, _, rfl, rfl, rfl, rfl, rfl⟩

set_option maxHeartbeats 2000000 in
set_option maxRecDepth 100000 in
theorem conv_bad (x0 x1 x2 x3 : Value) (o0 : x0.oneCell' = true) (o1 : x1.oneCell' = true) (o2 : x2.oneCell' = true) (o3 : x3.oneCell' = true) (A : Option Addr) (m cc : Nat) (k : Int) (tt aa n : ByteArray) (to_ dk dn : Int) (ds : ByteArray) (tb : Int) (RA_ : Option Addr) (rm rc : Nat) (E : Int) (w : World) (hm : m ≤ 1000000)
    (HF : Hid (∀ W, Same w W → Calls Tryz.prog 56 #[.agg #[.slice A m cc], .agg #[.int .i64 k, .string tt, .string aa, .string n, .int .i64 to_, .int .i64 dk, .int .i64 dn, .string ds]] W fun e w' => (∃ qn qa : Int, e = .returned (.tuple #[.agg #[x0, x1, x2, x3], .int .i64 qn, .int .i64 qa, .int .i64 E])) ∧ Same W w')) (hE : E ≠ 0) :
    Calls Tryz.prog 26 #[.agg #[.slice A m cc], .agg #[.int .i64 k, .string tt, .string aa, .string n, .int .i64 to_, .int .i64 dk, .int .i64 dn, .string ds], .int .i64 tb, .slice RA_ rm rc] w fun e w' => e = .returned (.tuple #[.slice none 0 0, .int .i64 E]) ∧ Same w w' := by
  have r0 := fun w a m => run_store Tryz.prog w a x0 m o0
  have r1 := fun w a m => run_store Tryz.prog w a x1 m o1
  have r2 := fun w a m => run_store Tryz.prog w a x2 m o2
  have r3 := fun w a m => run_store Tryz.prog w a x3 m o3
  have tE : (E != 0) = true := by simp; exact hE
  clear o0 o1 o2 o3 hE
  go_enter Tryz.func26, Tryz.ntmps26
  go_wp2_with (fail)
  refine (HF.out _ ?_).mono ?_
  · exact ((Same.refl w).alloc _).alloc _
  rintro e w1 ⟨⟨qn, qa, rfl⟩, s1⟩
  have S1 := Lib.hid (Same.trans (((Same.refl w).alloc _).alloc _) s1)
  have Z1 : w.heap.size + 2 ≤ w1.heap.size := by have := s1.size; simp at this; omega
  have z0 : w.heap.size < w1.heap.size := by omega
  have z1 : w.heap.size + 1 < w1.heap.size := by omega
  have hne1 : w.heap.size ≠ w1.heap.size := by omega
  have hne2 : w.heap.size + 1 ≠ w1.heap.size := by omega
  have b0 : w1.cell? ⟨w.heap.size, 0, none⟩ = some (.slice A m cc) := (s1.cells _ _ (by simp <;> omega)).trans (by simp)
  have c0 : w1.cell? ⟨w.heap.size + 1, 0, none⟩ = some (.int .i64 k) := (s1.cells _ _ (by simp)).trans (by simp)
  have c1 : w1.cell? ⟨w.heap.size + 1, 1, none⟩ = some (.string tt) := (s1.cells _ _ (by simp)).trans (by simp)
  have c2 : w1.cell? ⟨w.heap.size + 1, 2, none⟩ = some (.string aa) := (s1.cells _ _ (by simp)).trans (by simp)
  have c3 : w1.cell? ⟨w.heap.size + 1, 3, none⟩ = some (.string n) := (s1.cells _ _ (by simp)).trans (by simp)
  have c4 : w1.cell? ⟨w.heap.size + 1, 4, none⟩ = some (.int .i64 to_) := (s1.cells _ _ (by simp)).trans (by simp)
  have c5 : w1.cell? ⟨w.heap.size + 1, 5, none⟩ = some (.int .i64 dk) := (s1.cells _ _ (by simp)).trans (by simp)
  have c6 : w1.cell? ⟨w.heap.size + 1, 6, none⟩ = some (.int .i64 dn) := (s1.cells _ _ (by simp)).trans (by simp)
  have c7 : w1.cell? ⟨w.heap.size + 1, 7, none⟩ = some (.string ds) := (s1.cells _ _ (by simp)).trans (by simp)
  clear s1
  go_wp2_with (fail)
  go_ret2
  exact ⟨rfl, S1.out.alloc _⟩

set_option maxHeartbeats 2000000 in
set_option maxRecDepth 100000 in
theorem conv_neg (x0 x1 x2 x3 : Value) (o0 : x0.oneCell' = true) (o1 : x1.oneCell' = true) (o2 : x2.oneCell' = true) (o3 : x3.oneCell' = true) (A : Option Addr) (m cc : Nat) (k : Int) (tt aa n : ByteArray) (to_ dk dn : Int) (ds : ByteArray) (tb : Int) (RA_ : Option Addr) (rm rc : Nat) (E qn qa : Int) (w : World) (hm : m ≤ 1000000)
    (HF : Hid (∀ W, Same w W → Calls Tryz.prog 56 #[.agg #[.slice A m cc], .agg #[.int .i64 k, .string tt, .string aa, .string n, .int .i64 to_, .int .i64 dk, .int .i64 dn, .string ds]] W fun e w' => e = .returned (.tuple #[.agg #[x0, x1, x2, x3], .int .i64 qn, .int .i64 qa, .int .i64 E]) ∧ Same W w')) (hE : E = 0) (ht : tb < 0) :
    Calls Tryz.prog 26 #[.agg #[.slice A m cc], .agg #[.int .i64 k, .string tt, .string aa, .string n, .int .i64 to_, .int .i64 dk, .int .i64 dn, .string ds], .int .i64 tb, .slice RA_ rm rc] w fun e w' => e = .returned (.tuple #[.slice none 0 0, .int .i64 1]) ∧ Same w w' := by
  have r0 := fun w a m => run_store Tryz.prog w a x0 m o0
  have r1 := fun w a m => run_store Tryz.prog w a x1 m o1
  have r2 := fun w a m => run_store Tryz.prog w a x2 m o2
  have r3 := fun w a m => run_store Tryz.prog w a x3 m o3
  have tE : (E != 0) = false := by simp; exact hE
  clear o0 o1 o2 o3 hE
  go_enter Tryz.func26, Tryz.ntmps26
  go_wp2_with (fail)
  refine (HF.out _ ?_).mono ?_
  · exact ((Same.refl w).alloc _).alloc _
  rintro e w1 ⟨rfl, s1⟩
  have S1 := Lib.hid (Same.trans (((Same.refl w).alloc _).alloc _) s1)
  have Z1 : w.heap.size + 2 ≤ w1.heap.size := by have := s1.size; simp at this; omega
  have z0 : w.heap.size < w1.heap.size := by omega
  have z1 : w.heap.size + 1 < w1.heap.size := by omega
  have hne1 : w.heap.size ≠ w1.heap.size := by omega
  have hne2 : w.heap.size + 1 ≠ w1.heap.size := by omega
  have b0 : w1.cell? ⟨w.heap.size, 0, none⟩ = some (.slice A m cc) := (s1.cells _ _ (by simp <;> omega)).trans (by simp)
  have c0 : w1.cell? ⟨w.heap.size + 1, 0, none⟩ = some (.int .i64 k) := (s1.cells _ _ (by simp)).trans (by simp)
  have c1 : w1.cell? ⟨w.heap.size + 1, 1, none⟩ = some (.string tt) := (s1.cells _ _ (by simp)).trans (by simp)
  have c2 : w1.cell? ⟨w.heap.size + 1, 2, none⟩ = some (.string aa) := (s1.cells _ _ (by simp)).trans (by simp)
  have c3 : w1.cell? ⟨w.heap.size + 1, 3, none⟩ = some (.string n) := (s1.cells _ _ (by simp)).trans (by simp)
  have c4 : w1.cell? ⟨w.heap.size + 1, 4, none⟩ = some (.int .i64 to_) := (s1.cells _ _ (by simp)).trans (by simp)
  have c5 : w1.cell? ⟨w.heap.size + 1, 5, none⟩ = some (.int .i64 dk) := (s1.cells _ _ (by simp)).trans (by simp)
  have c6 : w1.cell? ⟨w.heap.size + 1, 6, none⟩ = some (.int .i64 dn) := (s1.cells _ _ (by simp)).trans (by simp)
  have c7 : w1.cell? ⟨w.heap.size + 1, 7, none⟩ = some (.string ds) := (s1.cells _ _ (by simp)).trans (by simp)
  clear s1
  go_wp2_with (fail)
  go_ret2
  exact ⟨rfl, S1.out.alloc _⟩

set_option maxHeartbeats 2000000 in
set_option maxRecDepth 100000 in
theorem conv_far (x0 x1 x2 x3 : Value) (o0 : x0.oneCell' = true) (o1 : x1.oneCell' = true) (o2 : x2.oneCell' = true) (o3 : x3.oneCell' = true) (A : Option Addr) (m cc : Nat) (k : Int) (tt aa n : ByteArray) (to_ dk dn : Int) (ds : ByteArray) (tb : Int) (RA_ : Option Addr) (rm rc : Nat) (E qn qa : Int) (w : World) (hm : m ≤ 1000000)
    (HF : Hid (∀ W, Same w W → Calls Tryz.prog 56 #[.agg #[.slice A m cc], .agg #[.int .i64 k, .string tt, .string aa, .string n, .int .i64 to_, .int .i64 dk, .int .i64 dn, .string ds]] W fun e w' => e = .returned (.tuple #[.agg #[x0, x1, x2, x3], .int .i64 qn, .int .i64 qa, .int .i64 E]) ∧ Same W w')) (hE : E = 0) (ht : (m : Int) ≤ tb) :
    Calls Tryz.prog 26 #[.agg #[.slice A m cc], .agg #[.int .i64 k, .string tt, .string aa, .string n, .int .i64 to_, .int .i64 dk, .int .i64 dn, .string ds], .int .i64 tb, .slice RA_ rm rc] w fun e w' => e = .returned (.tuple #[.slice none 0 0, .int .i64 1]) ∧ Same w w' := by
  have r0 := fun w a m => run_store Tryz.prog w a x0 m o0
  have r1 := fun w a m => run_store Tryz.prog w a x1 m o1
  have r2 := fun w a m => run_store Tryz.prog w a x2 m o2
  have r3 := fun w a m => run_store Tryz.prog w a x3 m o3
  have tE : (E != 0) = false := by simp; exact hE
  have t1 : decide (tb < 0) = false := by simp; omega
  have t2 : decide ((m : Int) ≤ tb) = true := decide_eq_true ht
  clear o0 o1 o2 o3 hE
  go_enter Tryz.func26, Tryz.ntmps26
  go_wp2_with (fail)
  refine (HF.out _ ?_).mono ?_
  · exact ((Same.refl w).alloc _).alloc _
  rintro e w1 ⟨rfl, s1⟩
  have S1 := Lib.hid (Same.trans (((Same.refl w).alloc _).alloc _) s1)
  have Z1 : w.heap.size + 2 ≤ w1.heap.size := by have := s1.size; simp at this; omega
  have z0 : w.heap.size < w1.heap.size := by omega
  have z1 : w.heap.size + 1 < w1.heap.size := by omega
  have hne1 : w.heap.size ≠ w1.heap.size := by omega
  have hne2 : w.heap.size + 1 ≠ w1.heap.size := by omega
  have b0 : w1.cell? ⟨w.heap.size, 0, none⟩ = some (.slice A m cc) := (s1.cells _ _ (by simp <;> omega)).trans (by simp)
  have c0 : w1.cell? ⟨w.heap.size + 1, 0, none⟩ = some (.int .i64 k) := (s1.cells _ _ (by simp)).trans (by simp)
  have c1 : w1.cell? ⟨w.heap.size + 1, 1, none⟩ = some (.string tt) := (s1.cells _ _ (by simp)).trans (by simp)
  have c2 : w1.cell? ⟨w.heap.size + 1, 2, none⟩ = some (.string aa) := (s1.cells _ _ (by simp)).trans (by simp)
  have c3 : w1.cell? ⟨w.heap.size + 1, 3, none⟩ = some (.string n) := (s1.cells _ _ (by simp)).trans (by simp)
  have c4 : w1.cell? ⟨w.heap.size + 1, 4, none⟩ = some (.int .i64 to_) := (s1.cells _ _ (by simp)).trans (by simp)
  have c5 : w1.cell? ⟨w.heap.size + 1, 5, none⟩ = some (.int .i64 dk) := (s1.cells _ _ (by simp)).trans (by simp)
  have c6 : w1.cell? ⟨w.heap.size + 1, 6, none⟩ = some (.int .i64 dn) := (s1.cells _ _ (by simp)).trans (by simp)
  have c7 : w1.cell? ⟨w.heap.size + 1, 7, none⟩ = some (.string ds) := (s1.cells _ _ (by simp)).trans (by simp)
  clear s1
  go_wp2_with (fail)
  go_ret2
  exact ⟨rfl, S1.out.alloc _⟩

set_option maxHeartbeats 2000000 in
set_option maxRecDepth 100000 in
theorem conv_unfit (x0 x1 x2 x3 : Value) (o0 : x0.oneCell' = true) (o1 : x1.oneCell' = true) (o2 : x2.oneCell' = true) (o3 : x3.oneCell' = true) (A : Option Addr) (m cc : Nat) (k : Int) (tt aa n : ByteArray) (to_ dk dn : Int) (ds : ByteArray) (tb : Int) (RA_ : Option Addr) (rm rc : Nat) (E qn qa : Int) (w : World) (hm : m ≤ 1000000)
    (HF : Hid (∀ W, Same w W → Calls Tryz.prog 56 #[.agg #[.slice A m cc], .agg #[.int .i64 k, .string tt, .string aa, .string n, .int .i64 to_, .int .i64 dk, .int .i64 dn, .string ds]] W fun e w' => e = .returned (.tuple #[.agg #[x0, x1, x2, x3], .int .i64 qn, .int .i64 qa, .int .i64 E]) ∧ Same W w')) (hE : E = 0) (q : Nat) (hq : q < m) (htb : tb = q) (b off : Nat) (hA : A = some ⟨b, off, none⟩) (hbl : b < w.heap.size) (tn : ByteArray) (A1 : Option Addr) (m1 c1_ : Nat) (A2 : Option Addr) (m2 c2_ : Nat) (y0 : w.cell? ⟨b, off + q * 3, none⟩ = some (.string tn)) (y1 : w.cell? ⟨b, off + q * 3 + 1, none⟩ = some (.slice A1 m1 c1_)) (y2 : w.cell? ⟨b, off + q * 3 + 2, none⟩ = some (.slice A2 m2 c2_)) (HT : Hid (∀ W, Same w W → Calls Tryz.prog 36 #[.agg #[.string tn, .slice A1 m1 c1_, .slice A2 m2 c2_], .slice RA_ rm rc] W fun e w' => e = .returned (.bool false) ∧ Same W w')) :
    Calls Tryz.prog 26 #[.agg #[.slice A m cc], .agg #[.int .i64 k, .string tt, .string aa, .string n, .int .i64 to_, .int .i64 dk, .int .i64 dn, .string ds], .int .i64 tb, .slice RA_ rm rc] w fun e w' => e = .returned (.tuple #[.slice none 0 0, .int .i64 1]) ∧ Same w w' := by
  have r0 := fun w a m => run_store Tryz.prog w a x0 m o0
  have r1 := fun w a m => run_store Tryz.prog w a x1 m o1
  have r2 := fun w a m => run_store Tryz.prog w a x2 m o2
  have r3 := fun w a m => run_store Tryz.prog w a x3 m o3
  have tE : (E != 0) = false := by simp; exact hE
  subst htb hA
  have t1 : decide ((q : Int) < 0) = false := by simp
  have t2 : decide ((m : Int) ≤ (q : Int)) = false := by simp; omega
  clear o0 o1 o2 o3 hE
  go_enter Tryz.func26, Tryz.ntmps26
  go_wp2_with (fail)
  refine (HF.out _ ?_).mono ?_
  · exact ((Same.refl w).alloc _).alloc _
  rintro e w1 ⟨rfl, s1⟩
  have S1 := Lib.hid (Same.trans (((Same.refl w).alloc _).alloc _) s1)
  have Z1 : w.heap.size + 2 ≤ w1.heap.size := by have := s1.size; simp at this; omega
  have z0 : w.heap.size < w1.heap.size := by omega
  have z1 : w.heap.size + 1 < w1.heap.size := by omega
  have hne1 : w.heap.size ≠ w1.heap.size := by omega
  have hne2 : w.heap.size + 1 ≠ w1.heap.size := by omega
  have b0 : w1.cell? ⟨w.heap.size, 0, none⟩ = some (.slice (some ⟨b, off, none⟩) m cc) := (s1.cells _ _ (by simp <;> omega)).trans (by simp)
  have c0 : w1.cell? ⟨w.heap.size + 1, 0, none⟩ = some (.int .i64 k) := (s1.cells _ _ (by simp)).trans (by simp)
  have c1 : w1.cell? ⟨w.heap.size + 1, 1, none⟩ = some (.string tt) := (s1.cells _ _ (by simp)).trans (by simp)
  have c2 : w1.cell? ⟨w.heap.size + 1, 2, none⟩ = some (.string aa) := (s1.cells _ _ (by simp)).trans (by simp)
  have c3 : w1.cell? ⟨w.heap.size + 1, 3, none⟩ = some (.string n) := (s1.cells _ _ (by simp)).trans (by simp)
  have c4 : w1.cell? ⟨w.heap.size + 1, 4, none⟩ = some (.int .i64 to_) := (s1.cells _ _ (by simp)).trans (by simp)
  have c5 : w1.cell? ⟨w.heap.size + 1, 5, none⟩ = some (.int .i64 dk) := (s1.cells _ _ (by simp)).trans (by simp)
  have c6 : w1.cell? ⟨w.heap.size + 1, 6, none⟩ = some (.int .i64 dn) := (s1.cells _ _ (by simp)).trans (by simp)
  have c7 : w1.cell? ⟨w.heap.size + 1, 7, none⟩ = some (.string ds) := (s1.cells _ _ (by simp)).trans (by simp)
  clear s1
  have yy0 : w1.cell? ⟨b, off + q * 3, none⟩ = some (.string tn) := (S1.out.cells _ _ hbl).trans y0
  have yy1 : w1.cell? ⟨b, off + q * 3 + 1, none⟩ = some (.slice A1 m1 c1_) := (S1.out.cells _ _ hbl).trans y1
  have yy2 : w1.cell? ⟨b, off + q * 3 + 2, none⟩ = some (.slice A2 m2 c2_) := (S1.out.cells _ _ hbl).trans y2
  have hbl1 : b < w1.heap.size := Nat.lt_of_lt_of_le hbl S1.out.size
  have hnb : b ≠ w1.heap.size := by omega
  clear y0 y1 y2
  go_wp2_with (fail)
  refine (HT.out _ ?_).mono ?_
  · exact S1.out.alloc _
  rintro e w2 ⟨rfl, s2⟩
  have S2 := Lib.hid ((S1.out.alloc _).trans s2)
  clear s2
  go_wp2_with (fail)
  go_ret2
  exact ⟨rfl, S2.out⟩

set_option maxHeartbeats 2000000 in
set_option maxRecDepth 100000 in
theorem conv_other (x0 x1 x2 x3 : Value) (o0 : x0.oneCell' = true) (o1 : x1.oneCell' = true) (o2 : x2.oneCell' = true) (o3 : x3.oneCell' = true) (A : Option Addr) (m cc : Nat) (k : Int) (tt aa n : ByteArray) (to_ dk dn : Int) (ds : ByteArray) (tb : Int) (RA_ : Option Addr) (rm rc : Nat) (E qn qa : Int) (w : World) (hm : m ≤ 1000000)
    (HF : Hid (∀ W, Same w W → Calls Tryz.prog 56 #[.agg #[.slice A m cc], .agg #[.int .i64 k, .string tt, .string aa, .string n, .int .i64 to_, .int .i64 dk, .int .i64 dn, .string ds]] W fun e w' => e = .returned (.tuple #[.agg #[x0, x1, x2, x3], .int .i64 qn, .int .i64 qa, .int .i64 E]) ∧ Same W w')) (hE : E = 0) (q : Nat) (hq : q < m) (htb : tb = q) (b off : Nat) (hA : A = some ⟨b, off, none⟩) (hbl : b < w.heap.size) (tn : ByteArray) (A1 : Option Addr) (m1 c1_ : Nat) (A2 : Option Addr) (m2 c2_ : Nat) (y0 : w.cell? ⟨b, off + q * 3, none⟩ = some (.string tn)) (y1 : w.cell? ⟨b, off + q * 3 + 1, none⟩ = some (.slice A1 m1 c1_)) (y2 : w.cell? ⟨b, off + q * 3 + 2, none⟩ = some (.slice A2 m2 c2_)) (HT : Hid (∀ W, Same w W → Calls Tryz.prog 36 #[.agg #[.string tn, .slice A1 m1 c1_, .slice A2 m2 c2_], .slice RA_ rm rc] W fun e w' => e = .returned (.bool true) ∧ Same W w')) (rl : Nat) (row : List V) (HCL : Hid (∀ W, Same w W → Calls Tryz.prog 57 #[.slice RA_ rm rc] W fun e w' => ∃ A c, e = .returned (.slice A rl c) ∧ Same W w' ∧ w'.ownsRow W.heap.size 26 3 (.slice A rl c) rl (row.flatMap V.cells))) (hqn : (q : Int) ≠ qn) :
    Calls Tryz.prog 26 #[.agg #[.slice A m cc], .agg #[.int .i64 k, .string tt, .string aa, .string n, .int .i64 to_, .int .i64 dk, .int .i64 dn, .string ds], .int .i64 tb, .slice RA_ rm rc] w fun e w' => ∃ A c, e = .returned (.tuple #[.slice A rl c, .int .i64 0]) ∧ w'.ownsRow w.heap.size 26 3 (.slice A rl c) rl (row.flatMap V.cells) ∧ Same w w' := by
  have r0 := fun w a m => run_store Tryz.prog w a x0 m o0
  have r1 := fun w a m => run_store Tryz.prog w a x1 m o1
  have r2 := fun w a m => run_store Tryz.prog w a x2 m o2
  have r3 := fun w a m => run_store Tryz.prog w a x3 m o3
  have tE : (E != 0) = false := by simp; exact hE
  subst htb hA
  have t1 : decide ((q : Int) < 0) = false := by simp
  have t2 : decide ((m : Int) ≤ (q : Int)) = false := by simp; omega
  have t3 : ((q : Int) != qn) = true := by simp; exact hqn
  clear o0 o1 o2 o3 hE hqn
  go_enter Tryz.func26, Tryz.ntmps26
  go_wp2_with (fail)
  refine (HF.out _ ?_).mono ?_
  · exact ((Same.refl w).alloc _).alloc _
  rintro e w1 ⟨rfl, s1⟩
  have S1 := Lib.hid (Same.trans (((Same.refl w).alloc _).alloc _) s1)
  have Z1 : w.heap.size + 2 ≤ w1.heap.size := by have := s1.size; simp at this; omega
  have z0 : w.heap.size < w1.heap.size := by omega
  have z1 : w.heap.size + 1 < w1.heap.size := by omega
  have hne1 : w.heap.size ≠ w1.heap.size := by omega
  have hne2 : w.heap.size + 1 ≠ w1.heap.size := by omega
  have b0 : w1.cell? ⟨w.heap.size, 0, none⟩ = some (.slice (some ⟨b, off, none⟩) m cc) := (s1.cells _ _ (by simp <;> omega)).trans (by simp)
  have c0 : w1.cell? ⟨w.heap.size + 1, 0, none⟩ = some (.int .i64 k) := (s1.cells _ _ (by simp)).trans (by simp)
  have c1 : w1.cell? ⟨w.heap.size + 1, 1, none⟩ = some (.string tt) := (s1.cells _ _ (by simp)).trans (by simp)
  have c2 : w1.cell? ⟨w.heap.size + 1, 2, none⟩ = some (.string aa) := (s1.cells _ _ (by simp)).trans (by simp)
  have c3 : w1.cell? ⟨w.heap.size + 1, 3, none⟩ = some (.string n) := (s1.cells _ _ (by simp)).trans (by simp)
  have c4 : w1.cell? ⟨w.heap.size + 1, 4, none⟩ = some (.int .i64 to_) := (s1.cells _ _ (by simp)).trans (by simp)
  have c5 : w1.cell? ⟨w.heap.size + 1, 5, none⟩ = some (.int .i64 dk) := (s1.cells _ _ (by simp)).trans (by simp)
  have c6 : w1.cell? ⟨w.heap.size + 1, 6, none⟩ = some (.int .i64 dn) := (s1.cells _ _ (by simp)).trans (by simp)
  have c7 : w1.cell? ⟨w.heap.size + 1, 7, none⟩ = some (.string ds) := (s1.cells _ _ (by simp)).trans (by simp)
  clear s1
  have yy0 : w1.cell? ⟨b, off + q * 3, none⟩ = some (.string tn) := (S1.out.cells _ _ hbl).trans y0
  have yy1 : w1.cell? ⟨b, off + q * 3 + 1, none⟩ = some (.slice A1 m1 c1_) := (S1.out.cells _ _ hbl).trans y1
  have yy2 : w1.cell? ⟨b, off + q * 3 + 2, none⟩ = some (.slice A2 m2 c2_) := (S1.out.cells _ _ hbl).trans y2
  have hbl1 : b < w1.heap.size := Nat.lt_of_lt_of_le hbl S1.out.size
  have hnb : b ≠ w1.heap.size := by omega
  clear y0 y1 y2
  go_wp2_with (fail)
  refine (HT.out _ ?_).mono ?_
  · exact S1.out.alloc _
  rintro e w2 ⟨rfl, s2⟩
  have S2 := Lib.hid ((S1.out.alloc _).trans s2)
  clear s2
  go_wp2_with (fail)
  refine (HCL.out _ S2.out).mono ?_
  rintro e w3 ⟨A3, c3_, rfl, s3, o3⟩
  have O3 := Lib.hid (o3.mono S2.out.size)
  have S3 := Lib.hid (S2.out.trans s3)
  clear s3 o3
  go_wp2_with (fail)
  go_ret2
  exact ⟨A3, c3_, rfl, O3.out, S3.out⟩
end Go.Proofs.YtpakimhhpeaefaaGreatDoor
