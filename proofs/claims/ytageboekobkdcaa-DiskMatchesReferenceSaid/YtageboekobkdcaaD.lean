/- Disk: count. -/
import Derived.Test.YtageboekobkdcaaC
namespace Go.Proofs.Ytageboekobkdcaa
open Go.RowKit

set_option maxHeartbeats 1000000 in
theorem count_off (h : DH) (D : DS) (w : World) (d : DiskAt w h D) (x y : Int) (ha : D.arm = some (0, x, y)) (hml : D.q.length ≤ 1000) :
    Calls Try.prog 40 #[.pointer (some ⟨h.b, 0, none⟩)] w fun e w' => e = .returned (.int .i64 19) ∧ Turn w w' h (D.fail x y) := by
  obtain ⟨k, hv, hk⟩ := armAt_some d ha
  have hb := d.hb
  have c4 := d.c4
  rw [hv] at c4
  simp only [ptr?, Option.map_some] at c4
  have k0 := cell_of_blk hk 0; have k1 := cell_of_blk hk 1; have k2 := cell_of_blk hk 2
  simp at k0 k1 k2
  have hkl := lt_of_heap hk
  have HF := Lib.hid (fun w (d : DiskAt w h D) => fail_ok h D x y w d hml)
  have HD := Lib.hid d
  clear d ha hv hk
  go_enter Try.func40, Try.ntmps40
  go_wp2_with (fail)
  go_still_tail 15, (by kernel_rfl)
  change wpList _ _ _ _ _ w.drew
  have HD2 := Lib.hid (HD.out.kept (S := fun _ => False) (Chg.refl _ _).drew (fun _ _ h => h))
  go_wp2_with (go_at_call 24; refine (HF.out _ HD2.out).mono ?_; rintro e w1 ⟨rfl, t1⟩)
  go_ret
  refine ⟨rfl, ?_⟩
  exact t1.drawn

set_option maxHeartbeats 1000000 in
theorem count_none (h : DH) (D : DS) (w : World) (d : DiskAt w h D) (ha : D.arm = none) :
    Calls Try.prog 40 #[.pointer (some ⟨h.b, 0, none⟩)] w fun e w' => e = .returned (.int .i64 0) ∧ w = w' := by
  have hb := d.hb
  have c4 := d.c4
  rw [armAt_none d ha] at c4
  simp only [ptr?, Option.map_none] at c4
  clear d ha
  go_enter Try.func40, Try.ntmps40
  go_wp2
  go_ret
  exact ⟨rfl, rfl⟩

set_option maxHeartbeats 1000000 in
theorem count_tick (h : DH) (D : DS) (w : World) (d : DiskAt w h D) (a x y : Int) (ha : D.arm = some (a, x, y)) (h0 : 0 < a) :
    Calls Try.prog 40 #[.pointer (some ⟨h.b, 0, none⟩)] w fun e w' => e = .returned (.int .i64 0) ∧ Turn w w' h { D with arm := some (a - 1, x, y) } := by
  obtain ⟨k, hv, hk⟩ := armAt_some d ha
  have hb := d.hb
  have c4 := d.c4
  rw [hv] at c4
  simp only [ptr?, Option.map_some] at c4
  have k0 := cell_of_blk hk 0
  simp at k0
  have f0 := frozen_of_blk hk 0
  have hkl := lt_of_heap hk
  have hal := (d.wf.arm a x y ha).2
  have T : Turn w (w.setCell ⟨k, 0, none⟩ (.int .i64 (a - 1))) h { D with arm := some (a - 1, x, y) } := by
    obtain ⟨d', c'⟩ := d.tick ha hv (a' := a - 1) (by omega) (by omega)
    exact ⟨h, d', rfl, c', fun _ hk => .inl hk⟩
  have HT := Lib.hid T
  have e1 : IntKind.i64.wrap (a - 1) = a - 1 := IntWalk.i64_in _ (by omega)
  clear d ha hv hk T
  go_enter Try.func40, Try.ntmps40
  go_wp2
  go_ret
  exact ⟨rfl, HT.out⟩

/-- count, whatever the alarm. -/
theorem count_ok (h : DH) (D : DS) (w : World) (d : DiskAt w h D) (hml : D.q.length ≤ 1000) :
    Calls Try.prog 40 #[.pointer (some ⟨h.b, 0, none⟩)] w fun e w' => e = .returned (.int .i64 D.count.1) ∧ Turn w w' h D.count.2 := by
  cases ha : D.arm with
  | none =>
    have e : D.count = (0, D) := by simp [DS.count, ha]
    rw [e]
    refine (count_none h D w d ha).mono ?_
    rintro e w' ⟨he, rfl⟩
    exact ⟨he, Turn.same d (Chg.refl _ _)⟩
  | some t =>
    obtain ⟨a, x, y⟩ := t
    by_cases h0 : 0 < a
    · have e : D.count = (0, { D with arm := some (a - 1, x, y) }) := by simp [DS.count, ha, h0]
      rw [e]
      exact count_tick h D w d a x y ha h0
    · have e : D.count = (19, D.fail x y) := by simp [DS.count, ha, h0]
      rw [e]
      obtain rfl : a = 0 := by have := (d.wf.arm a x y ha).1; omega
      exact count_off h D w d x y ha hml

end Go.Proofs.Ytageboekobkdcaa
