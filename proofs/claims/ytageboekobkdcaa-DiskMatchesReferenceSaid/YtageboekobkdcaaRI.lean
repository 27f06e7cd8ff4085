/- The reference disk: Stale, Rot. -/
import Derived.Test.YtageboekobkdcaaRG
import Derived.BigRegion
namespace Go.Proofs.Ytageboekobkdcaa
open Go.RowKit

theorem RefAt.restr {w W : World} {h : RH} {D : DS} (d : RefAt w h D) (c : Chg (fun _ => False) w W) (i : Nat) (l : List UInt8) (hl : l.length = 64) :
    RTurn w (W.drew.setCell ⟨h.bs, i, none⟩ (.string (mkB l))) h { D with st := upd D.st i l } := by
  have dW := d.kept c.drew (fun _ _ h => h)
  have cs := chg_setCell W.drew h.bs i (.string (mkB l))
  refine RTurn.behind c.drew ⟨h, ⟨?_, dW.sst.set i l, dW.sel.of_block (cs.block _ dW.sel.lt (Ne.symm d.ap.se)), ?_, d.alm, d.ap, ⟨d.wf.n1, d.wf.n2, ?_, d.wf.ell, d.wf.qok, d.wf.arm⟩⟩, rfl, cs.mono (fun _ _ e => .inr (.inl e)), fun _ hk => .inl hk⟩
  · exact (cs.block _ (lt_of_heap dW.blk) d.ap.s).trans dW.blk
  · exact ownsRow_of_block dW.que fun k hk => cs.block k (dW.que.lt k hk).2 (d.ap.q k hk).2.1
  · intro k; simp only [upd]; split
    · exact hl
    · exact d.wf.stl k

set_option maxHeartbeats 2000000 in
theorem rstale_ok (h : RH) (D : DS) (i : Int) (w : World) (d : RefAt w h D) : Calls Try.prog 38 #[.pointer (some ⟨h.b, 0, none⟩), .int .i64 i] w fun e w' => e = .returned (.tuple #[]) ∧ RTurn w w' h (D.stale i) := by
  have c0 := d.c0; have c1 := d.c1
  have hb := d.hb
  have T := Lib.hid (RTurn.same d (Chg.refl _ _))
  by_cases h0 : i < 0
  · have t0 : decide (0 ≤ i) = false := by simpa using h0
    have e : D.stale i = D := by
      have hb : D.bad i = true := by simp [DS.bad]; omega
      simp [DS.stale, hb]
    rw [e]
    clear d e
    go_enter Try.func38, Try.ntmps38
    go_wp2
    go_end0
    exact ⟨rfl, T.out⟩
  · have t0 : decide (0 ≤ i) = true := by simpa using h0
    by_cases h1 : (D.n : Int) ≤ i
    · have t1 : decide (i < (D.n : Int)) = false := by simpa using h1
      have e : D.stale i = D := by
        have hb : D.bad i = true := by simp [DS.bad]; omega
        simp [DS.stale, hb]
      rw [e]
      clear d e
      go_enter Try.func38, Try.ntmps38
      go_wp2
      go_end0
      exact ⟨rfl, T.out⟩
    · have hb' : D.bad i = false := by simp [DS.bad]; omega
      obtain ⟨n, rfl⟩ := Int.eq_ofNat_of_zero_le (DS.bad_false hb').1
      have hin : n < D.n := by omega
      have t1 : decide ((n : Int) < (D.n : Int)) = true := by simp; omega
      have e : D.stale (n : Int) = { D with st := upd D.st n (D.el n) } := by simp [DS.stale, hb']
      rw [e]
      have s0 := d.sst.cell n hin
      have e0 := d.sel.cell n hin
      have sf := d.sst.fz n
      have TT := Lib.hid (d.restr (Chg.refl _ _) n (D.el n) (d.wf.ell n))
      obtain ⟨X, hX⟩ : ∃ X, X = mkB (D.st n) := ⟨_, rfl⟩
      obtain ⟨Y, hY⟩ : ∃ Y, Y = mkB (D.el n) := ⟨_, rfl⟩
      rw [← hX] at s0
      rw [← hY] at e0 TT
      clear d e hX hY T
      go_enter Try.func38, Try.ntmps38
      go_wp2
      go_still_tail 13, (by kernel_rfl)
      change wpList _ _ _ _ _ w.drew
      go_wp2
      go_end0
      exact ⟨rfl, TT.out⟩

theorem convert_one {W : World} (g : Nat) (b : UInt8) (hg : W.heap[g]? = some (.cells #[.int .u8 (b.toNat : Int)] 5 (0, 0))) :
    (convert 57 9 (.slice (some ⟨g, 0, none⟩) 1 1)).run Try.prog W = .ok (.string (mkB [b])) W := by
  rw [run_convert_bytes_string W 57 9 5 _ _ _ Try.underlying57 Try.underlying5 Try.underlying9]
  rw [run_bytesToString W ⟨g, 0, none⟩ 1 1 [(b.toNat : Int)] ?_]
  · have := foldl_push [b] ByteArray.empty
    simp only [List.map_cons, List.map_nil] at this
    rw [this]; rfl
  · have hl := run_loadCells_list (P := Try.prog) W ⟨g, 0, none⟩ [byteV b] ?_
    · simp only [List.length_cons, List.length_nil] at hl
      rw [hl]
      rfl
    · intro j v hv
      have hj : j = 0 := by
        have := (List.getElem?_eq_some_iff.1 hv).1
        simpa using this
      subst hj
      have : (⟨g, 0, none⟩ : Addr).add 0 = ⟨g, 0, none⟩ := by unfold Addr.add; split <;> simp_all
      rw [this, cell_of_blk hg]
      exact hv

theorem rot_text (l : List UInt8) (a : Nat) (ha : a < l.length) (v : UInt8) : mkB (l.set a v) = (mkB l).extract 0 a ++ mkB [v] ++ (mkB l).extract (a + 1) l.length := by
  apply eq_of_ba
  rw [ba_append, ba_append, ba_extract, ba_extract3, ba_mkB, ba_mkB, ba_mkB, List.take_of_length_le (l := l.drop (a + 1)) (by rw [List.length_drop]; exact Nat.le_refl _)]
  rw [List.set_eq_take_append_cons_drop, if_pos ha]
  simp

set_option maxHeartbeats 4000000 in
theorem rrot_good (h : RH) (D : DS) (i a m : Nat) (w : World) (d : RefAt w h D) (hi : i < D.n) (ha : a < 64) (hm : 0 < m) (hm2 : m < 256) : Calls Try.prog 37 #[.pointer (some ⟨h.b, 0, none⟩), .int .i64 (i : Int), .int .i64 (a : Int), .int .i64 (m : Int)] w fun e w' => e = .returned (.tuple #[]) ∧ RTurn w w' h (D.rot i a m) := by
  have c0 := d.c0
  have hb := d.hb
  have s0 := d.sst.cell i hi
  have sb := d.sst.lt
  have t1 : decide ((D.n : Int) ≤ (i : Int)) = false := by simp; omega
  have t2 : decide (64 ≤ (a : Int)) = false := by simp; omega
  have t3 : decide ((m : Int) < 1) = false := by simp; omega
  have t4 : decide (255 < (m : Int)) = false := by simp; omega
  have e6 : IntKind.u8.wrap (m : Int) = (m : Int) := by simp [IntKind.wrap, IntKind.bits, IntKind.signed]; omega
  obtain ⟨X, hX⟩ : ∃ X, X = mkB (D.st i) := ⟨_, rfl⟩
  rw [← hX] at s0
  have hXs : X.size = 64 := by rw [hX, size_mkB]; exact d.wf.stl i
  obtain ⟨b, hbv⟩ : ∃ b, (D.st i).getD a 0 = b := ⟨_, rfl⟩
  have ix := idx_str X a (by omega) b (by rw [hX, ba_mkB]; exact hbv)
  have e7 : bits BinOp.xor IntKind.u8 (b.toNat : Int) (m : Int) = ((b ^^^ UInt8.ofNat m).toNat : Int) := by
    rw [u8_xor_nat _ _ b.toNat_lt (by omega)]
    rw [UInt8.toNat_xor, UInt8.toNat_ofNat', Nat.mod_eq_of_lt (show m < 2 ^ 8 by omega)]
  obtain ⟨v, hv⟩ : ∃ v, v = b ^^^ UInt8.ofNat m := ⟨_, rfl⟩
  rw [← hv] at e7
  obtain ⟨V, hV⟩ : ∃ V : Int, (v.toNat : Int) = V := ⟨_, rfl⟩
  rw [hV] at e7
  have e : D.rot i a m = { D with st := upd D.st i ((D.st i).set a v) } := by
    rw [DS.rot_yes D i a m ⟨by simp [DS.bad]; omega, by omega, by omega, by omega, by omega⟩]
    simp only [Int.toNat_natCast]
    rw [hv, ← hbv]
  rw [e]
  have hl := d.wf.stl i
  have rt := rot_text (D.st i) a (by omega) v
  rw [← hX, hl] at rt
  have TT := Lib.hid (d.restr ((Chg.refl (fun _ => False) w).alloc (.cells #[.int .u8 V] 5)) i ((D.st i).set a v) (by rw [List.length_set]; exact hl))
  rw [rt] at TT
  have hcv : ∀ n, (convert 57 9 (.slice (some ⟨w.heap.size, 0, none⟩) 1 1)).run Try.prog ((w.alloc (.cells #[.int .u8 V] 5)).drewN n) = .ok (.string (mkB [v])) ((w.alloc (.cells #[.int .u8 V] 5)).drewN n) := fun n => convert_one (W := (w.alloc (.cells #[.int .u8 V] 5)).drewN n) w.heap.size v (by show (w.alloc (.cells #[.int .u8 V] 5)).heap[w.heap.size]? = _; rw [heap_alloc_new, hV])
  have hcv1 := hcv 1
  have hcv0 := hcv 0
  change (convert 57 9 (.slice (some ⟨w.heap.size, 0, none⟩) 1 1)).run Try.prog (w.alloc (.cells #[.int .u8 V] 5)).drew = .ok (.string (mkB [v])) (w.alloc (.cells #[.int .u8 V] 5)).drew at hcv1
  change (convert 57 9 (.slice (some ⟨w.heap.size, 0, none⟩) 1 1)).run Try.prog (w.alloc (.cells #[.int .u8 V] 5)) = .ok (.string (mkB [v])) (w.alloc (.cells #[.int .u8 V] 5)) at hcv0
  obtain ⟨Y, hY⟩ : ∃ Y, Y = mkB [v] := ⟨_, rfl⟩
  rw [← hY] at TT hcv1 hcv0
  clear hcv
  have hYs : Y.size = 1 := by rw [hY]; rfl
  have c0' : (w.alloc (.cells #[.int .u8 V] 5)).cell? ⟨h.b, 0, none⟩ = some (.slice (some ⟨h.bs, 0, none⟩) D.n h.cs) := by
    rw [World.cell?_alloc_lt _ _ _ hb]; exact c0
  have s0' : (w.alloc (.cells #[.int .u8 V] 5)).cell? ⟨h.bs, i, none⟩ = some (.string X) := by
    rw [World.cell?_alloc_lt _ _ _ sb]; exact s0
  have f0' : (w.alloc (.cells #[.int .u8 V] 5)).frozen? ⟨h.bs, i, none⟩ = false := by
    rw [World.frozen?_of_block (Below.heap_alloc _ _ _ sb)]; exact d.sst.fz i
  have w1 : IntKind.i64.wrap ((a : Int) + 1) = (a : Int) + 1 := IntWalk.i64_in _ (by omega)
  have w2 : ((a : Int) + 1).toNat = a + 1 := by omega
  have w3 : (a : Int) + 1 ≤ 64 := by omega
  have w4 : 0 ≤ (a : Int) + 1 := by omega
  have w5 : (a : Int) ≤ 64 := by omega
  clear d hX hbv hv e rt hV hY hl
  go_enter Try.func37, Try.ntmps37
  go_wp2
  obtain ⟨W, hW⟩ : ∃ W, W = w.alloc (.cells #[.int .u8 V] 5) := ⟨_, rfl⟩
  rw [← hW] at hcv0 hcv1 TT c0' s0' f0'
  rw [← hW]
  obtain ⟨gB, hgB⟩ : ∃ gB, gB = w.heap.size := ⟨_, rfl⟩
  rw [← hgB] at hcv0 hcv1
  rw [← hgB]
  clear hW hgB c0 s0 ix e7
  go_region
  all_goals (go_wp2; go_end0; exact ⟨rfl, TT.out⟩)

set_option maxHeartbeats 2000000 in
theorem rrot_bad (h : RH) (D : DS) (i a m : Int) (w : World) (d : RefAt w h D) (hno : ¬ D.rotOk i a m) : Calls Try.prog 37 #[.pointer (some ⟨h.b, 0, none⟩), .int .i64 i, .int .i64 a, .int .i64 m] w fun e w' => e = .returned (.tuple #[]) ∧ w = w' := by
  have c0 := d.c0
  have hb := d.hb
  unfold DS.rotOk DS.bad at hno
  simp only [Bool.or_eq_false_iff, decide_eq_false_iff_not] at hno
  have Hno := Lib.hid hno
  clear d hno
  by_cases h0 : i < 0
  · have t0 : decide (i < 0) = true := by simpa using h0
    go_enter Try.func37, Try.ntmps37
    go_wp2
    refine bodyPost_ret (results_none rfl _ _ _) rfl ?_
    exact ⟨rfl, rfl⟩
  · have t0 : decide (i < 0) = false := by simpa using h0
    by_cases h1 : (D.n : Int) ≤ i
    · have t1 : decide ((D.n : Int) ≤ i) = true := by simpa using h1
      go_enter Try.func37, Try.ntmps37
      go_wp2
      refine bodyPost_ret (results_none rfl _ _ _) rfl ?_
      exact ⟨rfl, rfl⟩
    · have t1 : decide ((D.n : Int) ≤ i) = false := by simpa using h1
      by_cases h2 : a < 0
      · have t2 : decide (a < 0) = true := by simpa using h2
        go_enter Try.func37, Try.ntmps37
        go_wp2
        refine bodyPost_ret (results_none rfl _ _ _) rfl ?_
        exact ⟨rfl, rfl⟩
      · have t2 : decide (a < 0) = false := by simpa using h2
        by_cases h3 : 64 ≤ a
        · have t3 : decide (64 ≤ a) = true := by simpa using h3
          go_enter Try.func37, Try.ntmps37
          go_wp2
          refine bodyPost_ret (results_none rfl _ _ _) rfl ?_
          exact ⟨rfl, rfl⟩
        · have t3 : decide (64 ≤ a) = false := by simpa using h3
          by_cases h4 : m < 1
          · have t4 : decide (m < 1) = true := by simpa using h4
            go_enter Try.func37, Try.ntmps37
            go_wp2
            refine bodyPost_ret (results_none rfl _ _ _) rfl ?_
            exact ⟨rfl, rfl⟩
          · have t4 : decide (m < 1) = false := by simpa using h4
            have h5 : 255 < m := by have := Hno.out; omega
            have t5 : decide (255 < m) = true := by simpa using h5
            go_enter Try.func37, Try.ntmps37
            go_wp2
            refine bodyPost_ret (results_none rfl _ _ _) rfl ?_
            exact ⟨rfl, rfl⟩

theorem rrot_ok (h : RH) (D : DS) (i a m : Int) (w : World) (d : RefAt w h D) : Calls Try.prog 37 #[.pointer (some ⟨h.b, 0, none⟩), .int .i64 i, .int .i64 a, .int .i64 m] w fun e w' => e = .returned (.tuple #[]) ∧ RTurn w w' h (D.rot i a m) := by
  by_cases ho : D.rotOk i a m
  · obtain ⟨hb', a0, a1, m0, m1⟩ := ho
    have := DS.bad_false hb'
    obtain ⟨n, rfl⟩ := Int.eq_ofNat_of_zero_le this.1
    obtain ⟨a', rfl⟩ := Int.eq_ofNat_of_zero_le a0
    obtain ⟨m', rfl⟩ := Int.eq_ofNat_of_zero_le (by omega : 0 ≤ m)
    exact rrot_good h D n a' m' w d (by omega) (by omega) (by omega) (by omega)
  · rw [DS.rot_no D i a m ho]
    exact (rrot_bad h D i a m w d ho).mono fun e w' ⟨he, hw⟩ => ⟨he, by subst hw; exact RTurn.same d (Chg.refl _ _)⟩
end Go.Proofs.Ytageboekobkdcaa
