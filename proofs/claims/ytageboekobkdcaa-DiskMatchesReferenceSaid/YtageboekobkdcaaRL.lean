/- The law's helpers: want. -/
import Derived.Test.YtageboekobkdcaaRK
namespace Go.Proofs.Ytageboekobkdcaa
open Go.RowKit

/-- A call on a disk behind a world that has turned nothing of it: what it leaves, and that a block made in between is as it was. -/
theorem rturn_fr {w W w' : World} {h : RH} {D D' : DS} (d : RefAt w h D) (c : Chg (fun _ => False) w W) (t : RTurn W w' h D') : RTurn w w' h D' ∧ ∀ k j, w.heap.size ≤ k → k < W.heap.size → w'.cell? ⟨k, j, none⟩ = W.cell? ⟨k, j, none⟩ := by
  refine ⟨RTurn.behind c t, fun k j h1 h2 => ?_⟩
  obtain ⟨h', d', hb, c', ho⟩ := t
  exact World.cell?_of_block (c'.block k h2 (fun hk => by have := d.lt k hk; omega))


set_option maxHeartbeats 1000000 in
theorem want_2 (h : RH) (D : DS) (s b : Int) (t : ByteArray) (o : Bool) (f : Int) (w : World) (d : RefAt w h D) (hml : D.q.length < 1000) (_hf : f ≤ 9223372036854775807) :
    Calls Try.prog 16 #[.pointer (some ⟨h.b, 0, none⟩), .agg #[.int .i64 2, .int .i64 s, .int .i64 b, .string t, .bool o, .int .i64 f]] w fun e w' => e = .returned (.tuple #[.string ByteArray.empty, .int .i64 D.sync.1]) ∧ RTurn w w' h (D.sync.2) := by
  have HD := Lib.hid (fun o => d.kept (S := fun _ => False) ((Chg.refl _ _).alloc o) (fun _ _ h => h))
  have HC := Lib.hid (fun w (d : RefAt w h D) => rsync_ok h D w d (by omega))
  clear d
  go_enter Try.func16, Try.ntmps16
  go_wp2_with (go_at_call 33; refine (HC.out _ (HD.out _)).mono ?_; rintro e w1 ⟨rfl, t1⟩; have T1 := Lib.hid t1; clear t1)
  go_ret2
  exact ⟨rfl, RTurn.behind ((Chg.refl _ _).alloc _) T1.out⟩

set_option maxHeartbeats 1000000 in
theorem want_3 (h : RH) (D : DS) (s b : Int) (t : ByteArray) (o : Bool) (f : Int) (w : World) (d : RefAt w h D) (hml : D.q.length < 1000) (_hf : f ≤ 9223372036854775807) :
    Calls Try.prog 16 #[.pointer (some ⟨h.b, 0, none⟩), .agg #[.int .i64 3, .int .i64 s, .int .i64 b, .string t, .bool o, .int .i64 f]] w fun e w' => e = .returned (.tuple #[.string ByteArray.empty, .int .i64 0]) ∧ RTurn w w' h (D.fail s b) := by
  have HD := Lib.hid (fun o => d.kept (S := fun _ => False) ((Chg.refl _ _).alloc o) (fun _ _ h => h))
  have HC := Lib.hid (fun w (d : RefAt w h D) => rfail_ok h D s b w d (by omega))
  clear d
  go_enter Try.func16, Try.ntmps16
  go_wp2_with (go_at_call 34; refine (HC.out _ (HD.out _)).mono ?_; rintro e w1 ⟨rfl, t1⟩; have T1 := Lib.hid t1; clear t1)
  go_ret2
  exact ⟨rfl, RTurn.behind ((Chg.refl _ _).alloc _) T1.out⟩

set_option maxHeartbeats 1000000 in
theorem want_4 (h : RH) (D : DS) (s b : Int) (t : ByteArray) (o : Bool) (f : Int) (w : World) (d : RefAt w h D) (_hml : D.q.length < 1000) (_hf : f ≤ 9223372036854775807) :
    Calls Try.prog 16 #[.pointer (some ⟨h.b, 0, none⟩), .agg #[.int .i64 4, .int .i64 s, .int .i64 b, .string t, .bool o, .int .i64 f]] w fun e w' => e = .returned (.tuple #[.string ByteArray.empty, .int .i64 0]) ∧ RTurn w w' h (D.start) := by
  have HD := Lib.hid (fun o => d.kept (S := fun _ => False) ((Chg.refl _ _).alloc o) (fun _ _ h => h))
  have HC := Lib.hid (fun w (d : RefAt w h D) => rstart_ok h D w d)
  clear d
  go_enter Try.func16, Try.ntmps16
  go_wp2_with (go_at_call 35; refine (HC.out _ (HD.out _)).mono ?_; rintro e w1 ⟨rfl, t1⟩; have T1 := Lib.hid t1; clear t1)
  go_ret2
  exact ⟨rfl, RTurn.behind ((Chg.refl _ _).alloc _) T1.out⟩

set_option maxHeartbeats 1000000 in
theorem want_5 (h : RH) (D : DS) (s b : Int) (t : ByteArray) (o : Bool) (f : Int) (w : World) (d : RefAt w h D) (_hml : D.q.length < 1000) (hf : f ≤ 9223372036854775807) :
    Calls Try.prog 16 #[.pointer (some ⟨h.b, 0, none⟩), .agg #[.int .i64 5, .int .i64 s, .int .i64 b, .string t, .bool o, .int .i64 f]] w fun e w' => e = .returned (.tuple #[.string ByteArray.empty, .int .i64 0]) ∧ RTurn w w' h (D.toArm f s b) := by
  have HD := Lib.hid (fun o => d.kept (S := fun _ => False) ((Chg.refl _ _).alloc o) (fun _ _ h => h))
  have HC := Lib.hid (fun w (d : RefAt w h D) => rarm_ok h D f s b w d hf)
  clear d
  go_enter Try.func16, Try.ntmps16
  go_wp2_with (go_at_call 36; refine (HC.out _ (HD.out _)).mono ?_; rintro e w1 ⟨rfl, t1⟩; have T1 := Lib.hid t1; clear t1)
  go_ret2
  exact ⟨rfl, RTurn.behind ((Chg.refl _ _).alloc _) T1.out⟩

set_option maxHeartbeats 1000000 in
theorem want_6 (h : RH) (D : DS) (s b : Int) (t : ByteArray) (o : Bool) (f : Int) (w : World) (d : RefAt w h D) (_hml : D.q.length < 1000) (_hf : f ≤ 9223372036854775807) :
    Calls Try.prog 16 #[.pointer (some ⟨h.b, 0, none⟩), .agg #[.int .i64 6, .int .i64 s, .int .i64 b, .string t, .bool o, .int .i64 f]] w fun e w' => e = .returned (.tuple #[.string ByteArray.empty, .int .i64 0]) ∧ RTurn w w' h (D.rot s b f) := by
  have HD := Lib.hid (fun o => d.kept (S := fun _ => False) ((Chg.refl _ _).alloc o) (fun _ _ h => h))
  have HC := Lib.hid (fun w (d : RefAt w h D) => rrot_ok h D s b f w d)
  clear d
  go_enter Try.func16, Try.ntmps16
  go_wp2_with (go_at_call 37; refine (HC.out _ (HD.out _)).mono ?_; rintro e w1 ⟨rfl, t1⟩; have T1 := Lib.hid t1; clear t1)
  go_ret2
  exact ⟨rfl, RTurn.behind ((Chg.refl _ _).alloc _) T1.out⟩

set_option maxHeartbeats 1000000 in
theorem want_7 (h : RH) (D : DS) (s b : Int) (t : ByteArray) (o : Bool) (f : Int) (w : World) (d : RefAt w h D) (_hml : D.q.length < 1000) (_hf : f ≤ 9223372036854775807) :
    Calls Try.prog 16 #[.pointer (some ⟨h.b, 0, none⟩), .agg #[.int .i64 7, .int .i64 s, .int .i64 b, .string t, .bool o, .int .i64 f]] w fun e w' => e = .returned (.tuple #[.string ByteArray.empty, .int .i64 0]) ∧ RTurn w w' h (D.stale s) := by
  have HD := Lib.hid (fun o => d.kept (S := fun _ => False) ((Chg.refl _ _).alloc o) (fun _ _ h => h))
  have HC := Lib.hid (fun w (d : RefAt w h D) => rstale_ok h D s w d)
  clear d
  go_enter Try.func16, Try.ntmps16
  go_wp2_with (go_at_call 38; refine (HC.out _ (HD.out _)).mono ?_; rintro e w1 ⟨rfl, t1⟩; have T1 := Lib.hid t1; clear t1)
  go_ret2
  exact ⟨rfl, RTurn.behind ((Chg.refl _ _).alloc _) T1.out⟩

set_option maxHeartbeats 1000000 in
theorem want_1 (h : RH) (D : DS) (s b : Int) (t : ByteArray) (o : Bool) (f : Int) (w : World) (d : RefAt w h D) (hml : D.q.length < 1000) :
    Calls Try.prog 16 #[.pointer (some ⟨h.b, 0, none⟩), .agg #[.int .i64 1, .int .i64 s, .int .i64 b, .string t, .bool o, .int .i64 f]] w fun e w' => e = .returned (.tuple #[.string (D.read s).1, .int .i64 (D.read s).2]) ∧ RTurn w w' h D := by
  have HD := Lib.hid (fun o => d.kept (S := fun _ => False) ((Chg.refl _ _).alloc o) (fun _ _ h => h))
  have HC := Lib.hid (fun w (d : RefAt w h D) => rread_ok h D s w d (by omega))
  have Hd := Lib.hid d
  clear d
  go_enter Try.func16, Try.ntmps16
  go_wp2_with (go_at_call 18; refine (HC.out _ (HD.out _)).mono ?_; rintro e w1 ⟨rfl, rfl⟩)
  go_ret2
  exact ⟨rfl, RTurn.same Hd.out ((Chg.refl _ _).alloc _)⟩

set_option maxHeartbeats 1000000 in
theorem want_else (h : RH) (D : DS) (k s b : Int) (t : ByteArray) (o : Bool) (f : Int) (w : World) (d : RefAt w h D) (hk : k ≠ 0 ∧ k ≠ 1 ∧ k ≠ 2 ∧ k ≠ 3 ∧ k ≠ 4 ∧ k ≠ 5 ∧ k ≠ 6 ∧ k ≠ 7) :
    Calls Try.prog 16 #[.pointer (some ⟨h.b, 0, none⟩), .agg #[.int .i64 k, .int .i64 s, .int .i64 b, .string t, .bool o, .int .i64 f]] w fun e w' => e = .returned (.tuple #[.string ByteArray.empty, .int .i64 0]) ∧ RTurn w w' h D := by
  have Hd := Lib.hid d
  obtain ⟨k0, k1, k2, k3, k4, k5, k6, k7⟩ := hk
  have t0 : (k == 0) = false := by simpa using k0
  have t1 : (k == 1) = false := by simpa using k1
  have t2 : (k == 2) = false := by simpa using k2
  have t3 : (k == 3) = false := by simpa using k3
  have t4 : (k == 4) = false := by simpa using k4
  have t5 : (k == 5) = false := by simpa using k5
  have t6 : (k == 6) = false := by simpa using k6
  have t7 : (k == 7) = false := by simpa using k7
  clear d k0 k1 k2 k3 k4 k5 k6 k7
  go_enter Try.func16, Try.ntmps16
  go_wp2
  go_ret2
  exact ⟨rfl, RTurn.same Hd.out ((Chg.refl _ _).alloc _)⟩

set_option maxHeartbeats 2000000 in
theorem want_0 (h : RH) (D : DS) (a : AC) (w : World) (d : RefAt w h D) (hml : D.q.length < 1000) (ht : a.text.size ≤ 100) :
    Calls Try.prog 16 #[.pointer (some ⟨h.b, 0, none⟩), .agg #[.int .i64 0, .int .i64 a.sector, .int .i64 a.bytes, .string a.text, .bool a.odd, .int .i64 a.after]] w fun e w' => e = .returned (.tuple #[.string ByteArray.empty, .int .i64 (D.write a.sector a.txt).1]) ∧ RTurn w w' h (D.write a.sector a.txt).2 := by
  have HT := Lib.hid (fun w => text_ok { a with kind := 0 } w ht)
  have htx : ({ a with kind := 0 } : AC).txt = a.txt := rfl
  simp only [htx] at HT
  have hle := a.txt_le ht
  obtain ⟨x, hx⟩ : ∃ x, x = a.txt := ⟨_, rfl⟩
  rw [← hx] at HT hle ⊢
  obtain ⟨sec, hsec⟩ : ∃ sec, sec = a.sector := ⟨_, rfl⟩
  obtain ⟨byt, hbyt⟩ : ∃ byt, byt = a.bytes := ⟨_, rfl⟩
  obtain ⟨tx, htx2⟩ : ∃ tx, tx = a.text := ⟨_, rfl⟩
  obtain ⟨od, hod⟩ : ∃ od, od = a.odd := ⟨_, rfl⟩
  obtain ⟨af, haf⟩ : ∃ af, af = a.after := ⟨_, rfl⟩
  rw [← hsec, ← hbyt, ← htx2, ← hod, ← haf] at HT
  rw [← hsec, ← hbyt, ← htx2, ← hod, ← haf]
  clear hx hsec hbyt htx2 hod haf htx ht
  have HW := Lib.hid (fun W (c : Chg (fun _ => False) w W) => (rwrite_ok h D sec x W (d.kept c (fun _ _ h => h)) hml).mono (R' := fun e w' => e = .returned (.int .i64 (D.write sec x).1) ∧ (∀ j, w.heap.size < W.heap.size → w'.cell? ⟨w.heap.size, j, none⟩ = W.cell? ⟨w.heap.size, j, none⟩) ∧ Hid (RTurn w w' h (D.write sec x).2))
    (fun e w' ⟨he, t⟩ => ⟨he, fun j hj => (rturn_fr d c t).2 w.heap.size j (Nat.le_refl _) hj, (rturn_fr d c t).1⟩))
  have Hd := Lib.hid d
  clear d
  go_enter Try.func16, Try.ntmps16
  go_wp2_with (fail)
  go_region_held3 (fun w' => w'.cell? ⟨w.heap.size, 0, none⟩ = some (.int .i64 0) ∧ w'.cell? ⟨w.heap.size, 1, none⟩ = some (.int .i64 sec) ∧ w'.cell? ⟨w.heap.size, 2, none⟩ = some (.int .i64 byt) ∧ w'.cell? ⟨w.heap.size, 3, none⟩ = some (.string tx) ∧ w'.cell? ⟨w.heap.size, 4, none⟩ = some (.bool od) ∧ w'.cell? ⟨w.heap.size, 5, none⟩ = some (.int .i64 af)) (first | go_keep | simp [*])
    (first | (go_at_call 23; refine (HT.out _).mono ?_; rintro e w1 ⟨rfl, c1⟩; have C1 := Lib.hid c1; have K1 := fun j => World.cell?_of_block (a := ⟨w.heap.size, j, none⟩) (c1.block w.heap.size (by simp) (fun h => h)); have Z1 : w.heap.size < w1.heap.size := Nat.lt_of_lt_of_le (by simp) c1.size; clear c1) | (go_at_call 32; refine (HW.out _ ?_).mono ?_; exact (((Chg.refl _ _).alloc _).drew).trans C1.out (fun _ _ h => h); rintro e w2 ⟨rfl, fr0, T⟩; have fr := fun j => fr0 j Z1; clear fr0))
  go_wp2
  go_ret2
  exact ⟨rfl, T.out⟩

theorem want_ok (h : RH) (D : DS) (a : AC) (w : World) (d : RefAt w h D) (hml : D.q.length < 1000) (ht : a.text.size ≤ 100) (hf : a.after ≤ 9223372036854775807) :
    Calls Try.prog 16 #[.pointer (some ⟨h.b, 0, none⟩), a.val] w fun e w' => e = .returned (.tuple #[.string (D.act a).1.1, .int .i64 (D.act a).1.2]) ∧ RTurn w w' h (D.act a).2 := by
  obtain ⟨k, s, b, t, o, f⟩ := a
  by_cases h0 : k = 0
  · subst h0; exact want_0 h D ⟨0, s, b, t, o, f⟩ w d hml ht
  by_cases h1 : k = 1
  · subst h1; exact want_1 h D s b t o f w d hml
  by_cases h2 : k = 2
  · subst h2; exact want_2 h D s b t o f w d hml hf
  by_cases h3 : k = 3
  · subst h3; exact want_3 h D s b t o f w d hml hf
  by_cases h4 : k = 4
  · subst h4; exact want_4 h D s b t o f w d hml hf
  by_cases h5 : k = 5
  · subst h5; exact want_5 h D s b t o f w d hml hf
  by_cases h6 : k = 6
  · subst h6; exact want_6 h D s b t o f w d hml hf
  by_cases h7 : k = 7
  · subst h7; exact want_7 h D s b t o f w d hml hf
  · have e : D.act ⟨k, s, b, t, o, f⟩ = ((ByteArray.empty, 0), D) := by simp [DS.act, h0, h1, h2, h3, h4, h5, h6, h7]
    rw [e]
    exact want_else h D k s b t o f w d ⟨h0, h1, h2, h3, h4, h5, h6, h7⟩

end Go.Proofs.Ytageboekobkdcaa
