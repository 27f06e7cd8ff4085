/- schema.Convert, where the change's own function: contracts. Conditions: none. -/
import Derived.Test.YtpakimhhpeaefaaGreatDoorKTl
import Derived.Deep.Onto
import Derived.Deep.RegionWith
set_option linter.unusedSimpArgs false
set_option linter.unusedVariables false
namespace Go.Proofs.YtpakimhhpeaefaaGreatDoor
open Go.RowKit


set_option maxHeartbeats 2000000 in
set_option maxRecDepth 100000 in
theorem conv_own (x0 x1 x2 x3 : Value) (o0 : x0.oneCell' = true) (o1 : x1.oneCell' = true) (o2 : x2.oneCell' = true) (o3 : x3.oneCell' = true) (A : Option Addr) (m cc : Nat) (k : Int) (tt aa n : ByteArray) (to_ dk dn : Int) (ds : ByteArray) (tb : Int) (RA_ : Option Addr) (rm rc : Nat) (E qn qa : Int) (w : World) (hm : m ≤ 1000000)
    (HF : Hid (∀ W, Same w W → Calls Tryz.prog 56 #[.agg #[.slice A m cc], .agg #[.int .i64 k, .string tt, .string aa, .string n, .int .i64 to_, .int .i64 dk, .int .i64 dn, .string ds]] W fun e w' => e = .returned (.tuple #[.agg #[x0, x1, x2, x3], .int .i64 qn, .int .i64 qa, .int .i64 E]) ∧ Same W w')) (hE : E = 0) (q : Nat) (hq : q < m) (htb : tb = q) (b off : Nat) (hA : A = some ⟨b, off, none⟩) (hbl : b < w.heap.size) (tn : ByteArray) (A1 : Option Addr) (m1 c1_ : Nat) (A2 : Option Addr) (m2 c2_ : Nat) (y0 : w.cell? ⟨b, off + q * 3, none⟩ = some (.string tn)) (y1 : w.cell? ⟨b, off + q * 3 + 1, none⟩ = some (.slice A1 m1 c1_)) (y2 : w.cell? ⟨b, off + q * 3 + 2, none⟩ = some (.slice A2 m2 c2_)) (HT : Hid (∀ W, Same w W → Calls Tryz.prog 36 #[.agg #[.string tn, .slice A1 m1 c1_, .slice A2 m2 c2_], .slice RA_ rm rc] W fun e w' => e = .returned (.bool true) ∧ Same W w')) (rl : Nat) (row : List V) (HCL : Hid (∀ W, Same w W → Calls Tryz.prog 57 #[.slice RA_ rm rc] W fun e w' => ∃ A c, e = .returned (.slice A rl c) ∧ Same W w' ∧ w'.ownsRow W.heap.size 26 3 (.slice A rl c) rl (row.flatMap V.cells))) (hqn : (q : Int) = qn) (g3 : Nat) (hx3 : x3 = .func (.func g3) #[] #[]) (eg : ∀ args w, (callFunc g3 args).run Tryz.prog w = .ok (.enter g3 args) w) (R : Hd → Int → World → Prop)
    (HG : Hid (∀ W A cc, Same w W → W.ownsRow w.heap.size 26 3 (.slice A rl cc) rl (row.flatMap V.cells) → Calls Tryz.prog g3 #[.slice A rl cc, .agg #[.int .i64 k, .string tt, .string aa, .string n, .int .i64 to_, .int .i64 dk, .int .i64 dn, .string ds], .int .i64 qa] W fun e w' => ∃ A' n' c' E', e = .returned (.tuple #[.slice A' n' c', .int .i64 E']) ∧ R ⟨A', n', c'⟩ E' w' ∧ Below w.heap.size W w')) :
    Calls Tryz.prog 26 #[.agg #[.slice A m cc], .agg #[.int .i64 k, .string tt, .string aa, .string n, .int .i64 to_, .int .i64 dk, .int .i64 dn, .string ds], .int .i64 tb, .slice RA_ rm rc] w fun e w' => ∃ A' n' c' E', e = .returned (.tuple #[.slice A' n' c', .int .i64 E']) ∧ R ⟨A', n', c'⟩ E' w' ∧ Same w w' := by
  have r0 := fun w a m => run_store Tryz.prog w a x0 m o0
  have r1 := fun w a m => run_store Tryz.prog w a x1 m o1
  have r2 := fun w a m => run_store Tryz.prog w a x2 m o2
  have tE : (E != 0) = false := by simp; exact hE
  subst htb hA
  have t1 : decide ((q : Int) < 0) = false := by simp
  have t2 : decide ((m : Int) ≤ (q : Int)) = false := by simp; omega
  have t3 : ((q : Int) != qn) = false := by simp; exact hqn
  subst hx3
  have r3 := fun w a m => run_store Tryz.prog w a (.func (.func g3) #[] #[]) m rfl
  clear o0 o1 o2 hE hqn
  go_enter Tryz.func26, Tryz.ntmps26
  go_wp2_with (fail)
  refine (HF.out _ ?_).mono ?_
  · exact ((Same.refl w).alloc _).alloc _
  rintro e w1 ⟨rfl, s1⟩
  have S1 := Lib.hid (Same.trans (((Same.refl w).alloc _).alloc _) s1)
  have Z1 : w.heap.size + 2 ≤ w1.heap.size := by have := s1.size; simp at this; omega
  have z0 : w.heap.size < w1.heap.size := by omega
  have z1 : w.heap.size + 1 < w1.heap.size := by omega
  have hne1 : w.heap.size ≠ w1.heap.size := by omega
  have hne2 : w.heap.size + 1 ≠ w1.heap.size := by omega
  have b0 : w1.cell? ⟨w.heap.size, 0, none⟩ = some (.slice (some ⟨b, off, none⟩) m cc) := (s1.cells _ _ (by simp <;> omega)).trans (by simp)
  have c0 : w1.cell? ⟨w.heap.size + 1, 0, none⟩ = some (.int .i64 k) := (s1.cells _ _ (by simp)).trans (by simp)
  have c1 : w1.cell? ⟨w.heap.size + 1, 1, none⟩ = some (.string tt) := (s1.cells _ _ (by simp)).trans (by simp)
  have c2 : w1.cell? ⟨w.heap.size + 1, 2, none⟩ = some (.string aa) := (s1.cells _ _ (by simp)).trans (by simp)
  have c3 : w1.cell? ⟨w.heap.size + 1, 3, none⟩ = some (.string n) := (s1.cells _ _ (by simp)).trans (by simp)
  have c4 : w1.cell? ⟨w.heap.size + 1, 4, none⟩ = some (.int .i64 to_) := (s1.cells _ _ (by simp)).trans (by simp)
  have c5 : w1.cell? ⟨w.heap.size + 1, 5, none⟩ = some (.int .i64 dk) := (s1.cells _ _ (by simp)).trans (by simp)
  have c6 : w1.cell? ⟨w.heap.size + 1, 6, none⟩ = some (.int .i64 dn) := (s1.cells _ _ (by simp)).trans (by simp)
  have c7 : w1.cell? ⟨w.heap.size + 1, 7, none⟩ = some (.string ds) := (s1.cells _ _ (by simp)).trans (by simp)
  clear s1
  have yy0 : w1.cell? ⟨b, off + q * 3, none⟩ = some (.string tn) := (S1.out.cells _ _ hbl).trans y0
  have yy1 : w1.cell? ⟨b, off + q * 3 + 1, none⟩ = some (.slice A1 m1 c1_) := (S1.out.cells _ _ hbl).trans y1
  have yy2 : w1.cell? ⟨b, off + q * 3 + 2, none⟩ = some (.slice A2 m2 c2_) := (S1.out.cells _ _ hbl).trans y2
  have hbl1 : b < w1.heap.size := Nat.lt_of_lt_of_le hbl S1.out.size
  have hnb : b ≠ w1.heap.size := by omega
  clear y0 y1 y2
  go_wp2_with (fail)
  refine (HT.out _ ?_).mono ?_
  · exact S1.out.alloc _
  rintro e w2 ⟨rfl, s2⟩
  have S2 := Lib.hid ((S1.out.alloc _).trans s2)
  have px : w2.cell? ⟨w1.heap.size, 3, none⟩ = some (.func (.func g3) #[] #[]) := (s2.cells _ _ (by simp)).trans (by simp)
  have d0 : w2.cell? ⟨w.heap.size + 1, 0, none⟩ = some (.int .i64 k) := (s2.cells _ _ (by simp <;> omega)).trans ((((Same.refl w1).alloc _).cells _ _ z1).trans c0)
  have d1 : w2.cell? ⟨w.heap.size + 1, 1, none⟩ = some (.string tt) := (s2.cells _ _ (by simp <;> omega)).trans ((((Same.refl w1).alloc _).cells _ _ z1).trans c1)
  have d2 : w2.cell? ⟨w.heap.size + 1, 2, none⟩ = some (.string aa) := (s2.cells _ _ (by simp <;> omega)).trans ((((Same.refl w1).alloc _).cells _ _ z1).trans c2)
  have d3 : w2.cell? ⟨w.heap.size + 1, 3, none⟩ = some (.string n) := (s2.cells _ _ (by simp <;> omega)).trans ((((Same.refl w1).alloc _).cells _ _ z1).trans c3)
  have d4 : w2.cell? ⟨w.heap.size + 1, 4, none⟩ = some (.int .i64 to_) := (s2.cells _ _ (by simp <;> omega)).trans ((((Same.refl w1).alloc _).cells _ _ z1).trans c4)
  have d5 : w2.cell? ⟨w.heap.size + 1, 5, none⟩ = some (.int .i64 dk) := (s2.cells _ _ (by simp <;> omega)).trans ((((Same.refl w1).alloc _).cells _ _ z1).trans c5)
  have d6 : w2.cell? ⟨w.heap.size + 1, 6, none⟩ = some (.int .i64 dn) := (s2.cells _ _ (by simp <;> omega)).trans ((((Same.refl w1).alloc _).cells _ _ z1).trans c6)
  have d7 : w2.cell? ⟨w.heap.size + 1, 7, none⟩ = some (.string ds) := (s2.cells _ _ (by simp <;> omega)).trans ((((Same.refl w1).alloc _).cells _ _ z1).trans c7)
  have z20 : w1.heap.size < w2.heap.size := Nat.lt_of_lt_of_le (by simp) s2.size
  have z21 : w.heap.size + 1 < w2.heap.size := by omega
  clear s2 c0 c1 c2 c3 c4 c5 c6 c7 b0 yy0 yy1 yy2
  go_wp2_with (fail)
  go_region_with
    (first
      | (go_at_call 57; refine (HCL.out _ S2.out.drew).mono ?_; rintro e w3 ⟨A3, c3_, rfl, s3, o3⟩; have S3 : Hid (Same w w3) := Same.trans S2.out.drew s3; have o3' := World.ownsRow.mono o3 S2.out.size; have HG3 := Lib.hid (HG.out w3 A3 c3_ S3.out o3'); have px3 := (s3.cells _ _ z20).trans px; have e0 := (s3.cells _ _ z21).trans d0; have e1 := (s3.cells _ _ z21).trans d1; have e2 := (s3.cells _ _ z21).trans d2; have e3 := (s3.cells _ _ z21).trans d3; have e4 := (s3.cells _ _ z21).trans d4; have e5 := (s3.cells _ _ z21).trans d5; have e6 := (s3.cells _ _ z21).trans d6; have e7 := (s3.cells _ _ z21).trans d7; clear s3 o3 o3')
      | (refine HG3.out.mono ?_; rintro e w4 ⟨A4, n4, c4_, E4, rfl, h4, b4⟩; have H4 := Lib.hid h4; have S4 : Hid (Same w w4) := Below.trans S3.out b4; clear h4 b4))
  all_goals
    go_wp2_with (fail)
    go_ret2
    exact ⟨A4, n4, c4_, E4, rfl, H4.out, S4.out⟩
end Go.Proofs.YtpakimhhpeaefaaGreatDoor
