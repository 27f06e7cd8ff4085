/- Disk: Stale, Rot. -/
import Derived.Test.YtageboekobkdcaaF
namespace Go.Proofs.Ytageboekobkdcaa
open Go.RowKit

set_option maxHeartbeats 1000000 in
theorem stale_nil (i : Int) (w : World) : Calls Try.prog 30 #[.pointer none, .int .i64 i] w fun e w' => e = .returned (.tuple #[]) ∧ Hid (Chg (fun _ => False) w w') := by
  go_enter Try.func30, Try.ntmps30
  go_wp2_with (go_at_call 43; refine (place_nil _ _).mono ?_; rintro e w1 ⟨rfl, ⟨mc, mf, mz, mh⟩⟩)
  go_end0
  exact ⟨rfl, mh.out.alloc _⟩

set_option maxHeartbeats 1000000 in
theorem stale_bad (h : DH) (D : DS) (i : Int) (w : World) (d : DiskAt w h D) (hb : D.bad i = true) : Calls Try.prog 30 #[.pointer (some ⟨h.b, 0, none⟩), .int .i64 i] w fun e w' => e = .returned (.tuple #[]) ∧ Hid (Chg (fun _ => False) w w') := by
  have HP := Lib.hid (place_bad h D i w d hb)
  clear d hb
  go_enter Try.func30, Try.ntmps30
  go_wp2_with (go_at_call 43; refine HP.out.mono ?_; rintro e w1 ⟨rfl, ⟨mc, mf, mz, mh⟩⟩)
  go_end0
  exact ⟨rfl, mh.out.alloc _⟩

/-- The facts for a sector's copy from the elder row into the stable one, at the world behind 'place'. -/
theorem stale_run {w W : World} {h : DH} {D : DS} (d : DiskAt w h D) (i : Nat) (hi : i < D.n) (c : Chg (fun _ => False) w W) :
    (∀ ty, (Builtin.copy_ #[57, 57] ty #[.slice (some ⟨h.bs, i * 64, none⟩) 64 (D.n * 64 - i * 64), .slice (some ⟨h.be, i * 64, none⟩) 64 (D.n * 64 - i * 64)]).run Try.prog W = .ok (goInt 64) (W.setRow h.bs (flat (upd D.st i (D.el i)) D.n).toArray)) ∧
      Hid (Turn w (W.setRow h.bs (flat (upd D.st i (D.el i)) D.n).toArray) h (D.stale i)) := by
  have dW := d.kept c (fun _ _ h => h)
  have hov : over (D.el i) (D.st i) = D.el i := by unfold over; rw [List.drop_of_length_le (by rw [d.wf.stl, d.wf.ell]; exact Nat.le_refl _)]; simp
  have hsp := flat_splice D.st d.wf.stl D.n i hi (D.el i) (by rw [d.wf.ell]; exact Nat.le_refl _)
  rw [hov] at hsp
  constructor
  · intro ty
    have h := run_copy_row (P := Try.prog) W 57 57 ty 5 h.bs (i * 64) 64 (D.n * 64 - i * 64) ⟨h.be, i * 64, none⟩ 64 (D.n * 64 - i * 64) (flat D.st D.n).toArray 5 ((D.el i).map byteV) Try.underlying57 Try.size5 dW.sblk (by simp [d.wf.ell]) ?_ (by simp [d.wf.ell, flat_length _ d.wf.stl]; omega) ?_
    · have hl : ((D.el i).map byteV).length = 64 := by simp [d.wf.ell]
      rw [hl] at h
      rw [h, ← hsp]
      simp [splice, hl]
    · intro j v hv
      have hj : j < 64 := by
        have := (List.getElem?_eq_some_iff.1 hv).1
        simpa [d.wf.ell] using this
      have : (⟨h.be, i * 64, none⟩ : Addr).add j = ⟨h.be, i * 64 + j, none⟩ := by unfold Addr.add; split <;> simp_all
      rw [this, cell_of_blk dW.eblk, List.getElem?_toArray, flat_get D.el d.wf.ell D.n i j hi hj, ← hv, List.getElem?_map, List.getElem?_eq_getElem (by rw [d.wf.ell]; exact hj)]
      simp [List.getD_eq_getElem?_getD, d.wf.ell, hj]
    · intro v hv
      simp only [List.mem_map] at hv
      obtain ⟨_, _, rfl⟩ := hv
      rfl
  · have hb : D.bad i = false := by simp [DS.bad]; omega
    have e : D.stale i = { D with st := upd D.st i (D.el i) } := by simp [DS.stale, hb]
    rw [e]
    refine Turn.behind c (dW.restable _ ?_ (setRow_heap _ _ _ _ _ _ dW.sblk) ⟨rfl, rfl, rfl, by rw [size_setRow]; exact Nat.le_refl _, fun k _ hk => setRow_other _ _ _ _ hk⟩)
    intro k; simp only [upd]; split
    · exact d.wf.ell _
    · exact d.wf.stl k

set_option maxHeartbeats 1000000 in
theorem stale_good (h : DH) (D : DS) (i : Nat) (w : World) (d : DiskAt w h D) (hi : i < D.n) : Calls Try.prog 30 #[.pointer (some ⟨h.b, 0, none⟩), .int .i64 (i : Int)] w fun e w' => e = .returned (.tuple #[]) ∧ Turn w w' h (D.stale i) := by
  have HP := Lib.hid (place_ok h D i w d (by simp [DS.bad]; omega))
  have hb2 := d.hb
  have c0 := d.c0; have c1 := d.c1
  have b1 : h.b ≠ h.bs := d.ap.s
  have hsl := fun g w => run_slice_ij (P := Try.prog) 57 Try.underlying57 _ rfl rfl g D.n i hi w
  have SR := Lib.hid (fun W (c : Chg (fun _ => False) w W) => stale_run d i hi c)
  have bsl := lt_of_heap d.sblk
  clear d
  go_enter Try.func30, Try.ntmps30
  go_wp2_with (go_at_call 43; refine HP.out.mono ?_; rintro e w1 ⟨rfl, ⟨mc, mf, mz, mh⟩⟩; have hb3 := Nat.lt_of_lt_of_le hb2 mz)
  have c0' := (mc h.b 0 hb2).trans c0
  have c1' := (mc h.b 1 hb2).trans c1
  have hbl := Nat.lt_of_lt_of_le bsl mz
  obtain ⟨run, T⟩ := SR.out ((w1.alloc (.cells #[.int .i64 ((i : Int) * 64), .int .i64 ((i : Int) * 64 + 64)] 67)).drew) (mh.out.alloc _).drew
  go_region_held3 (fun w' => w'.cell? ⟨h.b, 0, none⟩ = some (.slice (some ⟨h.bs, 0, none⟩) (D.n * 64) (D.n * 64)) ∧ w'.cell? ⟨h.b, 1, none⟩ = some (.slice (some ⟨h.be, 0, none⟩) (D.n * 64) (D.n * 64)) ∧ w'.cell? ⟨w1.heap.size, 0, none⟩ = some (.int .i64 (i * 64)) ∧ w'.cell? ⟨w1.heap.size, 1, none⟩ = some (.int .i64 (i * 64 + 64))) (first | go_keep | simp [*, cell?_setRow_far, Nat.ne_of_gt])
    (first | (fail))
  go_end0
  exact ⟨rfl, T.out⟩

theorem stale_ok (h : DH) (D : DS) (i : Int) (w : World) (d : DiskAt w h D) : Calls Try.prog 30 #[.pointer (some ⟨h.b, 0, none⟩), .int .i64 i] w fun e w' => e = .returned (.tuple #[]) ∧ Turn w w' h (D.stale i) := by
  by_cases hb : D.bad i = true
  · have e : D.stale i = D := by simp [DS.stale, hb]
    rw [e]
    exact (stale_bad h D i w d hb).mono fun e w' ⟨he, hc⟩ => ⟨he, Turn.same d hc.out⟩
  · have hb' := DS.bad_false (by simpa using hb : D.bad i = false)
    obtain ⟨n, rfl⟩ := Int.eq_ofNat_of_zero_le hb'.1
    exact stale_good h D n w d (by omega)

set_option maxHeartbeats 1000000 in
theorem rot_nil (i a m : Int) (w : World) : Calls Try.prog 29 #[.pointer none, .int .i64 i, .int .i64 a, .int .i64 m] w fun e w' => e = .returned (.tuple #[]) ∧ Hid (Chg (fun _ => False) w w') := by
  go_enter Try.func29, Try.ntmps29
  go_wp2_with (go_at_call 43; refine (place_nil _ _).mono ?_; rintro e w1 ⟨rfl, ⟨mc, mf, mz, mh⟩⟩)
  go_end0
  exact ⟨rfl, mh.out.alloc _⟩

set_option maxHeartbeats 1000000 in
theorem rot_bad (h : DH) (D : DS) (i a m : Int) (w : World) (d : DiskAt w h D) (hb : D.bad i = true) : Calls Try.prog 29 #[.pointer (some ⟨h.b, 0, none⟩), .int .i64 i, .int .i64 a, .int .i64 m] w fun e w' => e = .returned (.tuple #[]) ∧ Hid (Chg (fun _ => False) w w') := by
  have HP := Lib.hid (place_bad h D i w d hb)
  clear d hb
  go_enter Try.func29, Try.ntmps29
  go_wp2_with (go_at_call 43; refine HP.out.mono ?_; rintro e w1 ⟨rfl, ⟨mc, mf, mz, mh⟩⟩)
  go_end0
  exact ⟨rfl, mh.out.alloc _⟩

set_option maxHeartbeats 1000000 in
theorem rot_out (h : DH) (D : DS) (i a m : Int) (w : World) (d : DiskAt w h D) (hb : D.bad i = false) (ho : ¬ (0 ≤ a ∧ a < 64 ∧ 0 < m ∧ m < 256)) : Calls Try.prog 29 #[.pointer (some ⟨h.b, 0, none⟩), .int .i64 i, .int .i64 a, .int .i64 m] w fun e w' => e = .returned (.tuple #[]) ∧ Hid (Chg (fun _ => False) w w') := by
  have HP := Lib.hid (place_ok h D i w d hb)
  clear d hb
  by_cases h1 : 0 ≤ a
  · have t1 : decide (0 ≤ a) = true := by simpa using h1
    by_cases h2 : a < 64
    · have t2 : decide (a < 64) = true := by simpa using h2
      by_cases h3 : 0 < m
      · have t3 : decide (0 < m) = true := by simpa using h3
        have h4 : ¬ m < 256 := fun h4 => ho ⟨h1, h2, h3, h4⟩
        have t4 : decide (m < 256) = false := by simpa using h4
        clear ho
        go_enter Try.func29, Try.ntmps29
        go_wp2_with (go_at_call 43; refine HP.out.mono ?_; rintro e w1 ⟨rfl, ⟨mc, mf, mz, mh⟩⟩)
        go_end0
        exact ⟨rfl, mh.out.alloc _⟩
      · have t3 : decide (0 < m) = false := by simpa using h3
        clear ho
        go_enter Try.func29, Try.ntmps29
        go_wp2_with (go_at_call 43; refine HP.out.mono ?_; rintro e w1 ⟨rfl, ⟨mc, mf, mz, mh⟩⟩)
        go_end0
        exact ⟨rfl, mh.out.alloc _⟩
    · have t2 : decide (a < 64) = false := by simpa using h2
      clear ho
      go_enter Try.func29, Try.ntmps29
      go_wp2_with (go_at_call 43; refine HP.out.mono ?_; rintro e w1 ⟨rfl, ⟨mc, mf, mz, mh⟩⟩)
      go_end0
      exact ⟨rfl, mh.out.alloc _⟩
  · have t1 : decide (0 ≤ a) = false := by simpa using h1
    clear ho
    go_enter Try.func29, Try.ntmps29
    go_wp2_with (go_at_call 43; refine HP.out.mono ?_; rintro e w1 ⟨rfl, ⟨mc, mf, mz, mh⟩⟩)
    go_end0
    exact ⟨rfl, mh.out.alloc _⟩

theorem flat_set (st : Nat → List UInt8) (h : ∀ i, (st i).length = 64) (n i a : Nat) (hi : i < n) (ha : a < 64) (v : UInt8) :
    (flat st n).set (i * 64 + a) (byteV v) = flat (upd st i ((st i).set a v)) n := by
  have h' : ∀ k, (upd st i ((st i).set a v) k).length = 64 := by
    intro k; simp only [upd]; split
    · rw [List.length_set, h]
    · exact h k
  apply List.ext_getElem?
  intro k
  by_cases hk : k < n * 64
  · have e : k / 64 * 64 + k % 64 = k := by omega
    have hm : k % 64 < 64 := Nat.mod_lt _ (by omega)
    have r := flat_get (upd st i ((st i).set a v)) h' n (k / 64) (k % 64) (by omega) hm
    have l := flat_get st h n (k / 64) (k % 64) (by omega) hm
    rw [e] at r l
    rw [r, List.getElem?_set, flat_length st h, l]
    by_cases hki : k / 64 = i
    · rw [hki, upd_same]
      by_cases hka : k % 64 = a
      · rw [if_pos (by omega), if_pos (by omega), hka]
        simp [List.getD_eq_getElem?_getD, h, ha]
      · rw [if_neg (by omega)]
        simp [List.getD_eq_getElem?_getD, Ne.symm hka]
    · rw [if_neg (by omega), upd_other _ _ _ _ hki]
  · rw [List.getElem?_eq_none (by rw [List.length_set, flat_length st h]; omega), List.getElem?_eq_none (by rw [flat_length _ h']; omega)]
theorem rot_turn {w W : World} {h : DH} {D : DS} (d : DiskAt w h D) (c : Chg (fun _ => False) w W) {i a m : Nat} (hi : i < D.n) (ha : a < 64) (hm : 0 < m) (hm2 : m < 256) :
    Turn w (W.drew.setCell ⟨h.bs, i * 64 + a, none⟩ (.int .u8 ((((D.st i).getD a 0) ^^^ UInt8.ofNat m).toNat : Int))) h (D.rot i a m) := by
  have dW := d.kept c.drew (fun _ _ h => h)
  have hb : D.bad i = false := by simp [DS.bad]; omega
  have e : D.rot i a m = { D with st := upd D.st i ((D.st i).set a ((D.st i).getD a 0 ^^^ UInt8.ofNat m)) } := by
    unfold DS.rot
    rw [if_pos ⟨hb, by omega, by omega, by omega, by omega⟩]
    simp
  rw [e]
  refine Turn.behind c.drew (dW.restable _ ?_ ?_ (chg_setCell _ _ _ _))
  · intro k; simp only [upd]; split
    · rw [List.length_set]; exact d.wf.stl i
    · exact d.wf.stl k
  · rw [setCell_blk dW.sblk]
    have := flat_set D.st d.wf.stl D.n i a hi ha ((D.st i).getD a 0 ^^^ UInt8.ofNat m)
    rw [← this]
    simp [byteV]

set_option maxHeartbeats 1000000 in
theorem rot_good (h : DH) (D : DS) (i a m : Nat) (w : World) (d : DiskAt w h D) (hi : i < D.n) (ha : a < 64) (hm : 0 < m) (hm2 : m < 256) : Calls Try.prog 29 #[.pointer (some ⟨h.b, 0, none⟩), .int .i64 (i : Int), .int .i64 (a : Int), .int .i64 (m : Int)] w fun e w' => e = .returned (.tuple #[]) ∧ Turn w w' h (D.rot i a m) := by
  have HP := Lib.hid (place_ok h D i w d (by simp [DS.bad]; omega))
  have hb2 := d.hb
  have c0 := d.c0
  have bsl := lt_of_heap d.sblk
  have t1 : decide ((a : Int) < 64) = true := by simp; omega
  have t2 : decide (0 < (m : Int)) = true := by simp; omega
  have t3 : decide ((m : Int) < 256) = true := by simp; omega
  have cb : w.cell? ⟨h.bs, i * 64 + a, none⟩ = some (byteV ((D.st i).getD a 0)) := by rw [cell_of_blk d.sblk, List.getElem?_toArray, flat_get D.st d.wf.stl D.n i a hi ha]
  have fb := frozen_of_blk d.sblk (i * 64 + a)
  have hn := d.wf.n2
  obtain ⟨b, hbv⟩ : ∃ b, (D.st i).getD a 0 = b := ⟨_, rfl⟩
  rw [hbv] at cb
  unfold byteV at cb
  have Hd := Lib.hid d
  clear d
  go_enter Try.func29, Try.ntmps29
  go_wp2_with (go_at_call 43; refine HP.out.mono ?_; rintro e w1 ⟨rfl, ⟨mc, mf, mz, mh⟩⟩; have hb3 := Nat.lt_of_lt_of_le hb2 mz)
  obtain ⟨W, hW⟩ : ∃ W, W = w1.alloc (.cells #[.int .i64 ((i : Int) * 64), .int .i64 ((i : Int) * 64 + 64)] 67) := ⟨_, rfl⟩
  have c0' : W.cell? ⟨h.b, 0, none⟩ = some (.slice (some ⟨h.bs, 0, none⟩) (D.n * 64) (D.n * 64)) := by
    rw [hW, World.cell?_alloc_lt _ _ _ hb3]; exact (mc h.b 0 hb2).trans c0
  have hbl := Nat.lt_of_lt_of_le bsl mz
  have cb' : W.cell? ⟨h.bs, i * 64 + a, none⟩ = some (.int .u8 (b.toNat : Int)) := by
    rw [hW, World.cell?_alloc_lt _ _ _ hbl]; exact (mc h.bs (i * 64 + a) bsl).trans cb
  have sp0 : W.cell? ⟨w1.heap.size, 0, none⟩ = some (.int .i64 ((i : Int) * 64)) := by rw [hW]; simp
  have fb' : W.frozen? ⟨h.bs, i * 64 + a, none⟩ = false := by
    rw [hW, World.frozen?_of_block (Below.heap_alloc _ _ _ hbl)]; exact (mf h.bs (i * 64 + a) bsl).trans fb
  have HC := Lib.hid (show Chg (fun _ => False) w W by rw [hW]; exact mh.out.alloc _)
  rw [← hW]
  clear hW mc mf mz mh
  have e1 : IntKind.i64.wrap ((i : Int) * 64 + a) = (i : Int) * 64 + a := IntWalk.i64_in _ (by omega)
  have e2 : ((i : Int) * 64 + a).toNat = i * 64 + a := by omega
  have e3 : 0 ≤ (i : Int) * 64 + a := by omega
  have e4 : (i : Int) * 64 + a < (D.n : Int) * 64 := by omega
  have e5 : (i : Int) * 64 + a < ((D.n * 64 : Nat) : Int) := by omega
  have e6 : IntKind.u8.wrap (m : Int) = (m : Int) := by simp [IntKind.wrap, IntKind.bits, IntKind.signed]; omega
  have e7 : bits BinOp.xor IntKind.u8 (b.toNat : Int) (m : Int) = ((b ^^^ UInt8.ofNat m).toNat : Int) := by
    rw [u8_xor_nat _ _ b.toNat_lt (by omega)]
    rw [UInt8.toNat_xor, UInt8.toNat_ofNat', Nat.mod_eq_of_lt (show m < 2 ^ 8 by omega)]
  obtain ⟨X, hX⟩ : ∃ X : Int, ((b ^^^ UInt8.ofNat m).toNat : Int) = X := ⟨_, rfl⟩
  rw [hX] at e7
  have HX := Lib.hid hX; have Hbv := Lib.hid hbv
  clear hX hbv
  go_still_tail 14, (by kernel_rfl)
  change wpList _ _ _ _ _ W.drew
  go_wp2
  go_end0
  refine ⟨rfl, ?_⟩
  rw [← HX.out, ← Hbv.out]
  exact rot_turn Hd.out HC.out hi ha hm hm2

theorem rot_ok (h : DH) (D : DS) (i a m : Int) (w : World) (d : DiskAt w h D) : Calls Try.prog 29 #[.pointer (some ⟨h.b, 0, none⟩), .int .i64 i, .int .i64 a, .int .i64 m] w fun e w' => e = .returned (.tuple #[]) ∧ Turn w w' h (D.rot i a m) := by
  by_cases hb : D.bad i = true
  · have e : D.rot i a m = D := by simp [DS.rot, hb]
    rw [e]
    exact (rot_bad h D i a m w d hb).mono fun e w' ⟨he, hc⟩ => ⟨he, Turn.same d hc.out⟩
  · have hb' : D.bad i = false := by simpa using hb
    by_cases ho : 0 ≤ a ∧ a < 64 ∧ 0 < m ∧ m < 256
    · have := DS.bad_false hb'
      obtain ⟨n, rfl⟩ := Int.eq_ofNat_of_zero_le this.1
      obtain ⟨a', rfl⟩ := Int.eq_ofNat_of_zero_le ho.1
      obtain ⟨m', rfl⟩ := Int.eq_ofNat_of_zero_le (by omega : 0 ≤ m)
      exact rot_good h D n a' m' w d (by omega) (by omega) (by omega) (by omega)
    · have e : D.rot i a m = D := by unfold DS.rot; rw [if_neg (fun h => ho h.2)]
      rw [e]
      exact (rot_out h D i a m w d hb' ho).mono fun e w' ⟨he, hc⟩ => ⟨he, Turn.same d hc.out⟩

end Go.Proofs.Ytageboekobkdcaa
