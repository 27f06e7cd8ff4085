/- Disk: Start, Arm, Sync, Stale, Rot. -/
import Derived.Test.YtageboekobkdcaaE
namespace Go.Proofs.Ytageboekobkdcaa
open Go.RowKit

theorem start_nil (w : World) : Calls Try.prog 19 #[.pointer none] w fun e w' => e = .returned (.tuple #[]) ∧ w = w' := by
  go_enter Try.func19, Try.ntmps19
  go_wp2
  go_end0
  exact ⟨rfl, rfl⟩

set_option maxHeartbeats 1000000 in
theorem start_ok (h : DH) (D : DS) (w : World) (d : DiskAt w h D) : Calls Try.prog 19 #[.pointer (some ⟨h.b, 0, none⟩)] w fun e w' => e = .returned (.tuple #[]) ∧ Turn w w' h D.start := by
  have c3 := d.c3; have c4 := d.c4; have f3 := d.fz 3; have f4 := d.fz 4; have hb := d.hb
  have T := Lib.hid d.started
  clear d
  go_enter Try.func19, Try.ntmps19
  go_wp2
  go_end0
  exact ⟨rfl, T.out⟩

theorem arm_nil (a x y : Int) (w : World) : Calls Try.prog 28 #[.pointer none, .int .i64 a, .int .i64 x, .int .i64 y] w fun e w' => e = .returned (.tuple #[]) ∧ w = w' := by
  go_enter Try.func28, Try.ntmps28
  go_wp2
  refine bodyPost_ret (results_none rfl _ _ _) rfl ?_
  exact ⟨rfl, rfl⟩

set_option maxHeartbeats 1000000 in
theorem arm_off (h : DH) (D : DS) (a x y : Int) (w : World) (d : DiskAt w h D) (ho : D.off = true) : Calls Try.prog 28 #[.pointer (some ⟨h.b, 0, none⟩), .int .i64 a, .int .i64 x, .int .i64 y] w fun e w' => e = .returned (.tuple #[]) ∧ w = w' := by
  have c3 := d.c3; have hb := d.hb
  rw [ho] at c3
  clear d ho
  go_enter Try.func28, Try.ntmps28
  go_wp2
  refine bodyPost_ret (results_none rfl _ _ _) rfl ?_
  exact ⟨rfl, rfl⟩

set_option maxHeartbeats 1000000 in
theorem arm_neg (h : DH) (D : DS) (a x y : Int) (w : World) (d : DiskAt w h D) (ho : D.off = false) (ha : a < 0) : Calls Try.prog 28 #[.pointer (some ⟨h.b, 0, none⟩), .int .i64 a, .int .i64 x, .int .i64 y] w fun e w' => e = .returned (.tuple #[]) ∧ Turn w w' h { D with arm := none } := by
  have c3 := d.c3; have hb := d.hb; have c4 := d.c4; have f4 := d.fz 4
  rw [ho] at c3
  have T := Lib.hid d.disarmed
  clear d ho
  go_enter Try.func28, Try.ntmps28
  go_wp2
  go_end0
  exact ⟨rfl, T.out⟩

set_option maxHeartbeats 1000000 in
theorem arm_set (h : DH) (D : DS) (a x y : Int) (w : World) (d : DiskAt w h D) (ho : D.off = false) (ha : 0 ≤ a) (ha' : a ≤ 9223372036854775807) : Calls Try.prog 28 #[.pointer (some ⟨h.b, 0, none⟩), .int .i64 a, .int .i64 x, .int .i64 y] w fun e w' => e = .returned (.tuple #[]) ∧ Turn w w' h { D with arm := some (a, x, y) } := by
  have c3 := d.c3; have hb := d.hb; have c4 := d.c4; have f4 := d.fz 4
  rw [ho] at c3
  have T : Turn w (((w.setCell ⟨h.b, 4, none⟩ (.pointer none)).setCell ⟨h.b, 4, none⟩ (.pointer (some ⟨w.heap.size, 0, none⟩))).alloc (.cells #[.int .i64 a, .int .i64 x, .int .i64 y] 77)) h { D with arm := some (a, x, y) } := by
    have hsz : (w.setCell ⟨h.b, 4, none⟩ (.pointer none)).heap.size = w.heap.size := size_setCell _ _ _
    rw [← World.setCell_alloc_past _ _ _ _ (by rw [hsz]; exact hb)]
    obtain ⟨h1, d1, b1, c1, o1⟩ := d.disarmed
    have k1 : (((w.setCell ⟨h.b, 4, none⟩ (.pointer none)).alloc (.cells #[.int .i64 a, .int .i64 x, .int .i64 y] 77))).heap[w.heap.size]? = some (.cells #[.int .i64 a, .int .i64 x, .int .i64 y] 77 (0, 0)) := by
      rw [← hsz]; exact heap_alloc_new _ _
    have n1 : ¬ h1.own w.heap.size := fun ho => by have := d1.lt _ ho; omega
    have d2 := (d1.kept (S := fun _ => False) ((Chg.refl _ _).alloc (.cells #[.int .i64 a, .int .i64 x, .int .i64 y] 77)) (fun _ _ h => h)).armed w.heap.size a x y ha ha' k1 n1
    have e4 : (⟨h1.b, 4, none⟩ : Addr) = ⟨h.b, 4, none⟩ := by rw [b1]
    rw [e4] at d2
    refine ⟨{ h1 with qv := h1.qv, av := some w.heap.size }, d2, b1, (c1.alloc _).setCell _ _ (fun _ => .inl rfl), ?_⟩
    intro k hk
    rcases hk with hk | hk | hk | hk | hk
    · exact o1 k (.inl hk)
    · exact o1 k (.inr (.inl hk))
    · exact o1 k (.inr (.inr (.inl hk)))
    · exact o1 k (.inr (.inr (.inr (.inl hk))))
    · have : w.heap.size = k := by simpa using hk
      exact .inr (by omega)
  have HT := Lib.hid T
  clear d ho T
  go_enter Try.func28, Try.ntmps28
  go_wp2
  go_end0
  exact ⟨rfl, HT.out⟩

theorem toArm_ok (h : DH) (D : DS) (a x y : Int) (w : World) (d : DiskAt w h D) (ha : a ≤ 9223372036854775807) : Calls Try.prog 28 #[.pointer (some ⟨h.b, 0, none⟩), .int .i64 a, .int .i64 x, .int .i64 y] w fun e w' => e = .returned (.tuple #[]) ∧ Turn w w' h (D.toArm a x y) := by
  by_cases ho : D.off = true
  · have e : D.toArm a x y = D := by simp [DS.toArm, ho]
    rw [e]
    refine (arm_off h D a x y w d ho).mono ?_
    rintro e w' ⟨he, rfl⟩
    exact ⟨he, Turn.same d (Chg.refl _ _)⟩
  · have ho' : D.off = false := by simpa using ho
    by_cases h0 : 0 ≤ a
    · have e : D.toArm a x y = { D with arm := some (a, x, y) } := by simp [DS.toArm, ho', h0]
      rw [e]; exact arm_set h D a x y w d ho' h0 ha
    · have e : D.toArm a x y = { D with arm := none } := by simp [DS.toArm, ho', h0]
      rw [e]; exact arm_neg h D a x y w d ho' (by omega)

theorem sync_nil (w : World) : Calls Try.prog 20 #[.pointer none] w fun e w' => e = .returned (.int .i64 1) ∧ w = w' := by
  go_enter Try.func20, Try.ntmps20
  go_wp2
  go_ret
  exact ⟨rfl, rfl⟩

set_option maxHeartbeats 1000000 in
theorem sync_off (h : DH) (D : DS) (w : World) (d : DiskAt w h D) (ho : D.off = true) : Calls Try.prog 20 #[.pointer (some ⟨h.b, 0, none⟩)] w fun e w' => e = .returned (.int .i64 19) ∧ w = w' := by
  have c3 := d.c3; have hb := d.hb
  rw [ho] at c3
  clear d ho
  go_enter Try.func20, Try.ntmps20
  go_wp2
  go_ret
  exact ⟨rfl, rfl⟩

/-- What Sync's walk wants to know behind count. -/
structure Counted (w w1 : World) (h : DH) (D : DS) (r : Int) : Prop where
  t : Hid (Turn w w1 h D)
  fine : r = 0 → ∃ a c, w1.cell? ⟨h.b, 2, none⟩ = some (.slice a D.q.length c) ∧ h.b < w1.heap.size ∧
    Hid (Calls Try.prog 41 #[.pointer (some ⟨h.b, 0, none⟩), .slice a D.q.length c] w1 fun e w2 => e = .returned (.tuple #[]) ∧ w2.cell? ⟨h.b, 2, none⟩ = some (.slice a D.q.length c) ∧ w2.frozen? ⟨h.b, 2, none⟩ = false ∧ h.b < w2.heap.size ∧
      Hid (Turn w (w2.setCell ⟨h.b, 2, none⟩ (.slice none 0 0)) h D.clean))
theorem Counted.of {w w1 : World} {h : DH} {D : DS} {r : Int} (t : Turn w w1 h D) (hml : D.q.length ≤ 1000) : Counted w w1 h D r := by
  refine ⟨t, fun _ => ?_⟩
  obtain ⟨h', d, hb, c, ho⟩ := t
  obtain ⟨a, cp, hq, hlc, _⟩ := d.qform
  refine ⟨a, cp, by rw [← hb, d.c2, hq], by rw [← hb]; exact d.hb, ?_⟩
  have hs := settle_gen h' D D.q.length cp a w1 d (Nat.le_refl _) hq hml
  rw [hb] at hs
  refine hs.mono ?_
  rintro e w2 ⟨he, d2, c2⟩
  rw [List.take_length] at d2
  refine ⟨he, by rw [← hb, d2.c2, hq], by rw [← hb]; exact d2.fz 2, by rw [← hb]; exact d2.hb, ?_⟩
  have t2 := d2.cleaned
  rw [hb] at t2
  exact Turn.trans hb (c.trans c2 (fun i hi hi' => (ho i hi').elim id (fun h => by omega))) ho t2

set_option maxHeartbeats 1000000 in
theorem sync_on (h : DH) (D : DS) (w : World) (d : DiskAt w h D) (ho : D.off = false) (hml : D.q.length ≤ 1000) : Calls Try.prog 20 #[.pointer (some ⟨h.b, 0, none⟩)] w fun e w' => e = .returned (.int .i64 D.sync.1) ∧ Turn w w' h D.sync.2 := by
  have c3 := d.c3; have hb := d.hb
  rw [ho] at c3
  have hq : D.count.2.q.length ≤ 1000 := by
    unfold DS.count
    split
    · exact hml
    · split
      · exact hml
      · unfold DS.fail
        split
        · exact hml
        · simp [DS.down]
  have C := Lib.hid ((count_ok h D w d hml).mono (R' := fun e w1 => e = .returned (.int .i64 D.count.1) ∧ Counted w w1 h D.count.2 D.count.1) (fun e w1 ⟨he, t⟩ => ⟨he, Counted.of t hq⟩))
  by_cases hr : D.count.1 = 0
  · have e : D.sync = (0, D.count.2.clean) := by simp [DS.sync, ho, hr]
    rw [e]
    have Hr := Lib.hid hr
    rw [hr] at C
    clear d ho hr e
    go_enter Try.func20, Try.ntmps20
    go_wp2_with (first | (go_at_call 40; refine C.out.mono ?_; rintro e w1 ⟨rfl, t1, fine⟩; obtain ⟨a, c, g2, gb, S⟩ := fine rfl; clear fine) | (go_at_call 41; refine S.out.mono ?_; rintro e w2 ⟨rfl, g2', f2', gb', T⟩))
    go_ret
    exact ⟨rfl, T.out⟩
  · have e : D.sync = D.count := by simp [DS.sync, ho, hr]
    rw [e]
    have t : (D.count.1 != 0) = true := by simp [hr]
    have Hr := Lib.hid hr
    clear d ho hr e
    go_enter Try.func20, Try.ntmps20
    go_wp2_with (first | (go_at_call 40; refine C.out.mono ?_; rintro e w1 ⟨rfl, t1, fine⟩; clear fine))
    go_ret
    exact ⟨rfl, t1.out⟩

theorem sync_ok (h : DH) (D : DS) (w : World) (d : DiskAt w h D) (hml : D.q.length ≤ 1000) : Calls Try.prog 20 #[.pointer (some ⟨h.b, 0, none⟩)] w fun e w' => e = .returned (.int .i64 D.sync.1) ∧ Turn w w' h D.sync.2 := by
  by_cases ho : D.off = true
  · have e : D.sync = (19, D) := by simp [DS.sync, ho]
    rw [e]
    refine (sync_off h D w d ho).mono ?_
    rintro e w' ⟨he, rfl⟩
    exact ⟨he, Turn.same d (Chg.refl _ _)⟩
  · exact sync_on h D w d (by simpa using ho) hml

end Go.Proofs.Ytageboekobkdcaa
