/- Disk: place, at. -/
import Derived.Test.YtageboekobkdcaaB
import Derived.Deep.AppendLies
namespace Go.Proofs.Ytageboekobkdcaa
open Go.RowKit

/-- A call that makes memory and turns nothing: what the caller's walk wants to know. -/
structure Made (w w' : World) : Prop where
  c : ∀ b o, b < w.heap.size → w'.cell? ⟨b, o, none⟩ = w.cell? ⟨b, o, none⟩
  f : ∀ b o, b < w.heap.size → w'.frozen? ⟨b, o, none⟩ = w.frozen? ⟨b, o, none⟩
  z : w.heap.size ≤ w'.heap.size
  hid : Hid (Chg (fun _ => False) w w')
theorem Made.of (w w' : World) (h : Chg (fun _ => False) w w') : Made w w' :=
  ⟨fun b _ hb => World.cell?_of_block (h.block b hb (fun h => h)), fun b _ hb => World.frozen?_of_block (h.block b hb (fun h => h)), h.size, h⟩

def spotV (i : Int) : Value := .agg #[.int .i64 (i * 64), .int .i64 (i * 64 + 64)]

set_option maxHeartbeats 400000 in
theorem place_nil (i : Int) (w : World) :
    Calls Try.prog 43 #[.pointer none, .int .i64 i] w fun e w' => e = .returned (.tuple #[.agg #[.int .i64 0, .int .i64 0], .bool false]) ∧ Made w w' := by
  go_enter Try.func43, Try.ntmps43
  go_wp2
  exact bodyPost_ret (v := .tuple #[.agg #[.int .i64 0, .int .i64 0], .bool false]) (by simp [results, Try.results43, go_sem]) rfl ⟨rfl, Made.of _ _ ((Chg.refl _ _).alloc _)⟩

set_option maxHeartbeats 400000 in
theorem place_bad (h : DH) (D : DS) (i : Int) (w : World) (d : DiskAt w h D) (hbad : D.bad i = true) :
    Calls Try.prog 43 #[.pointer (some ⟨h.b, 0, none⟩), .int .i64 i] w fun e w' => e = .returned (.tuple #[.agg #[.int .i64 0, .int .i64 0], .bool false]) ∧ Made w w' := by
  have hb := d.hb
  have c0 := d.c0
  have hn := d.wf.n2
  by_cases h0 : i < 0
  · have t0 : decide (i < 0) = true := by simp; omega
    clear d hbad
    go_enter Try.func43, Try.ntmps43
    go_wp2
    exact bodyPost_ret (v := .tuple #[.agg #[.int .i64 0, .int .i64 0], .bool false]) (by simp [results, Try.results43, go_sem]) rfl ⟨rfl, Made.of _ _ ((Chg.refl _ _).alloc _)⟩
  · have h1 : (D.n : Int) ≤ i := by have := DS.bad_true hbad; omega
    have t0 : decide (i < 0) = false := by simp; omega
    have t1 : decide ((D.n : Int) ≤ i) = true := by simp; omega
    clear d hbad
    go_enter Try.func43, Try.ntmps43
    go_wp2
    exact bodyPost_ret (v := .tuple #[.agg #[.int .i64 0, .int .i64 0], .bool false]) (by simp [results, Try.results43, go_sem]) rfl ⟨rfl, Made.of _ _ ((Chg.refl _ _).alloc _)⟩

set_option maxHeartbeats 400000 in
theorem place_ok (h : DH) (D : DS) (i : Int) (w : World) (d : DiskAt w h D) (hbad : D.bad i = false) :
    Calls Try.prog 43 #[.pointer (some ⟨h.b, 0, none⟩), .int .i64 i] w fun e w' => e = .returned (.tuple #[.agg #[.int .i64 (i * 64), .int .i64 (i * 64 + 64)], .bool true]) ∧ Made w w' := by
  obtain ⟨h0, h1⟩ := DS.bad_false hbad
  have hb := d.hb
  have c0 := d.c0
  have hn := d.wf.n2
  have t0 : decide (i < 0) = false := by simp; omega
  have t1 : decide ((D.n : Int) ≤ i) = false := by simp; omega
  have e1 := Lib.hid (show (i + 1) * 64 = i * 64 + 64 by omega)
  clear d hbad
  go_enter Try.func43, Try.ntmps43
  go_wp2
  exact bodyPost_ret (v := .tuple #[.agg #[.int .i64 (i * 64), .int .i64 ((i + 1) * 64)], .bool true]) (by simp [results, Try.results43, go_sem]) rfl ⟨by rw [e1.out], Made.of _ _ ((Chg.refl _ _).alloc _)⟩

theorem Made.trans {a b c : World} (h : Made a b) (k : Made b c) : Made a c := Made.of _ _ (h.hid.trans k.hid (fun _ _ h => h.elim))

theorem zlt {w : World} {o : Obj} {n : Nat} (h : (w.alloc o).heap.size ≤ n) : w.heap.size < n := by simp at h; omega

set_option maxHeartbeats 400000 in
theorem at_nil (i : Int) (w : World) :
    Calls Try.prog 39 #[.pointer none, .int .i64 i] w fun e w' => e = .returned (.tuple #[.agg #[.int .i64 0, .int .i64 0], .int .i64 1]) ∧ Made w w' := by
  go_enter Try.func39, Try.ntmps39
  go_wp2_with (go_at_call 43; refine (place_nil _ _).mono ?_; rintro e w1 ⟨rfl, ⟨mc, mf, mz, mh⟩⟩; replace mz := zlt mz)
  exact bodyPost_ret (v := .tuple #[.agg #[.int .i64 0, .int .i64 0], .int .i64 1]) (by simp [results, Try.results39, go_sem, mc, mz]) rfl ⟨rfl, Made.of _ _ (by have hm := ((Chg.refl (fun _ => False) w).alloc _).trans mh.out (fun _ _ h => h.elim); repeat (first | exact hm | refine Chg.alloc ?_ _ | refine Chg.setCell ?_ _ _ (fun hh => absurd hh (Nat.lt_irrefl _))))⟩

set_option maxHeartbeats 400000 in
theorem at_off (h : DH) (D : DS) (i : Int) (w : World) (d : DiskAt w h D) (ho : D.off = true) :
    Calls Try.prog 39 #[.pointer (some ⟨h.b, 0, none⟩), .int .i64 i] w fun e w' => e = .returned (.tuple #[.agg #[.int .i64 0, .int .i64 0], .int .i64 19]) ∧ Made w w' := by
  have hb := d.hb
  have c3 := d.c3
  rw [ho] at c3
  clear d ho
  go_enter Try.func39, Try.ntmps39
  go_wp2
  exact bodyPost_ret (v := .tuple #[.agg #[.int .i64 0, .int .i64 0], .int .i64 19]) (by simp [results, Try.results39, go_sem]) rfl ⟨rfl, Made.of _ _ ((Chg.refl _ _).alloc _)⟩

set_option maxHeartbeats 400000 in
theorem at_bad (h : DH) (D : DS) (i : Int) (w : World) (d : DiskAt w h D) (ho : D.off = false) (hbad : D.bad i = true) :
    Calls Try.prog 39 #[.pointer (some ⟨h.b, 0, none⟩), .int .i64 i] w fun e w' => e = .returned (.tuple #[.agg #[.int .i64 0, .int .i64 0], .int .i64 1]) ∧ Made w w' := by
  have hb := d.hb
  have c3 := d.c3
  rw [ho] at c3
  have HP := Lib.hid (fun w (d : DiskAt w h D) => place_bad h D i w d hbad)
  have HD := Lib.hid (fun o => d.kept (S := fun _ => False) ((Chg.refl _ _).alloc o) (fun _ _ h => h))
  clear d ho hbad
  go_enter Try.func39, Try.ntmps39
  go_wp2_with (go_at_call 43; refine (HP.out _ (HD.out _)).mono ?_; rintro e w1 ⟨rfl, ⟨mc, mf, mz, mh⟩⟩; replace mz := zlt mz)
  exact bodyPost_ret (v := .tuple #[.agg #[.int .i64 0, .int .i64 0], .int .i64 1]) (by simp [results, Try.results39, go_sem, mc, mz]) rfl ⟨rfl, Made.of _ _ (by have hm := ((Chg.refl (fun _ => False) w).alloc _).trans mh.out (fun _ _ h => h.elim); repeat (first | exact hm | refine Chg.alloc ?_ _ | refine Chg.setCell ?_ _ _ (fun hh => absurd hh (Nat.lt_irrefl _))))⟩

set_option maxHeartbeats 400000 in
theorem at_ok (h : DH) (D : DS) (i : Int) (w : World) (d : DiskAt w h D) (ho : D.off = false) (hbad : D.bad i = false) :
    Calls Try.prog 39 #[.pointer (some ⟨h.b, 0, none⟩), .int .i64 i] w fun e w' => e = .returned (.tuple #[.agg #[.int .i64 (i * 64), .int .i64 (i * 64 + 64)], .int .i64 0]) ∧ Made w w' := by
  have hb := d.hb
  have c3 := d.c3
  rw [ho] at c3
  have HP := Lib.hid (fun w (d : DiskAt w h D) => place_ok h D i w d hbad)
  have HD := Lib.hid (fun o => d.kept (S := fun _ => False) ((Chg.refl _ _).alloc o) (fun _ _ h => h))
  clear d ho hbad
  go_enter Try.func39, Try.ntmps39
  go_wp2_with (go_at_call 43; refine (HP.out _ (HD.out _)).mono ?_; rintro e w1 ⟨rfl, ⟨mc, mf, mz, mh⟩⟩; replace mz := zlt mz)
  exact bodyPost_ret (v := .tuple #[.agg #[.int .i64 (i * 64), .int .i64 (i * 64 + 64)], .int .i64 0]) (by simp [results, Try.results39, go_sem, mc, mz]) rfl ⟨rfl, Made.of _ _ (by have hm := ((Chg.refl (fun _ => False) w).alloc _).trans mh.out (fun _ _ h => h.elim); repeat (first | exact hm | refine Chg.alloc ?_ _ | refine Chg.setCell ?_ _ _ (fun hh => absurd hh (Nat.lt_irrefl _))))⟩

end Go.Proofs.Ytageboekobkdcaa
