/- The reference disk: Fail. -/
import Derived.Test.YtageboekobkdcaaRC
import Derived.Deep.DeepCutAuto
namespace Go.Proofs.Ytageboekobkdcaa
open Go.RowKit

theorem ba_extract3 (s : ByteArray) (a b : Nat) : ba (s.extract a b) = ((ba s).drop a).take (b - a) := by simp [ba]
def rdownW (w : World) (b : Nat) : World := ((w.setCell ⟨b, 2, none⟩ (.slice none 0 0)).setCell ⟨b, 3, none⟩ (.bool false)).setCell ⟨b, 4, none⟩ (.bool false)
theorem RefAt.down {w : World} {h : RH} {D : DS} (d : RefAt w h D) : RTurn w (rdownW w h.b) h D.down := by
  have b1 := setCell_blk d.blk 2 (.slice none 0 0)
  have b2 := setCell_blk b1 3 (.bool false)
  have b3 := setCell_blk b2 4 (.bool false)
  refine d.reblk { h with qv := .slice none 0 0 } rfl rfl rfl ?_ (((chg_setCell w h.b 2 _).trans (chg_setCell _ h.b 3 _) (fun _ _ h => h)).trans (chg_setCell _ h.b 4 _) (fun _ _ h => h)) rfl rfl rfl (.inr ⟨rfl, rfl⟩) (fun a x y he => by simp [DS.down] at he) d.wf.down
  exact b3
theorem RTurn.of {w w1 w' : World} {h : RH} {D' : DS} (c : Chg h.own w w1) (t : RTurn w1 w' h D') : RTurn w w' h D' :=
  RTurn.trans rfl c (fun _ hk => .inl hk) t
/-- What a disk shows to the stores that follow. -/
structure RSeen (w : World) (h : RH) (n : Nat) (qv : Value) (on ar : Bool) : Prop where
  g0 : w.cell? ⟨h.b, 0, none⟩ = some (.slice (some ⟨h.bs, 0, none⟩) n h.cs)
  g2 : w.cell? ⟨h.b, 2, none⟩ = some qv
  g3 : w.cell? ⟨h.b, 3, none⟩ = some (.bool on)
  g4 : w.cell? ⟨h.b, 4, none⟩ = some (.bool ar)
  f2 : w.frozen? ⟨h.b, 2, none⟩ = false
  f3 : w.frozen? ⟨h.b, 3, none⟩ = false
  f4 : w.frozen? ⟨h.b, 4, none⟩ = false
  hb : h.b < w.heap.size
theorem RefAt.seen {w : World} {h : RH} {D : DS} (d : RefAt w h D) {qv : Value} {on ar : Bool} {n : Nat} (hn : D.n = n) (hq : h.qv = qv) (ho : (!D.off) = on) (ha : D.arm.isSome = ar) : RSeen w h n qv on ar :=
  ⟨by rw [← hn]; exact d.c0, by rw [← hq]; exact d.c2, by rw [← ho]; exact d.c3, by rw [← ha]; exact d.c4, d.fz 2, d.fz 3, d.fz 4, d.hb⟩

set_option maxHeartbeats 4000000 in
theorem rfail_on (h : RH) (D : DS) (x y : Int) (w : World) (d : RefAt w h D) (hoff : D.off = false) (hml : D.q.length ≤ 1000) :
    Calls Try.prog 34 #[.pointer (some ⟨h.b, 0, none⟩), .int .i64 x, .int .i64 y] w fun e w' => e = .returned (.tuple #[]) ∧ RTurn w w' h (D.fail x y) := by
  have hb := d.hb
  have c2 := d.c2; have c3 := d.c3
  rw [hoff] at c3
  simp only [Bool.not_false] at c3
  obtain ⟨a, c, hq, hqc, hform⟩ := d.qform
  rw [hq] at c2
  obtain ⟨n, hn⟩ : ∃ n, n = cut x D.q.length := ⟨_, rfl⟩
  have hnl : n ≤ D.q.length := by rw [hn]; exact cut_le _ _
  have HN := Lib.hid (show (n : Int) = min (max x 0) (D.q.length : Int) by rw [hn]; unfold cut; omega)
  obtain ⟨E, hE⟩ : ∃ E, E = D.settle (D.q.take n) := ⟨_, rfl⟩
  have fin : ∀ p, D.q[n]? = p → (E.torn p y).down = D.fail x y := by
    intro p hp
    unfold DS.fail
    rw [hoff, ← hn, hp, hE]
    rfl
  have qle := DS.settle_rest (D.q.take n) D
  rw [← hE] at qle
  have S1 := Lib.hid (rsettle_ok h D n w d hnl hml)
  rw [← hE] at S1
  have hqok := Lib.hid d.wf.qok
  have Fin := Lib.hid fin; have Qle := Lib.hid qle
  have Hq := Lib.hid hq
  have HE := Lib.hid hE
  have Hform := Lib.hid hform
  have Hoff := Lib.hid hoff
  have S2 := Lib.hid (S1.out.mono (R' := fun e w1 => e = .returned (.tuple #[]) ∧ RSeen w1 h E.n (.slice a D.q.length c) true E.arm.isSome ∧ Hid (RefAt w1 h E ∧ Chg h.own w w1)) (by
      rintro e w1 ⟨he, hh⟩
      exact ⟨he, hh.out.1.seen rfl Hq.out (by rw [Qle.out.2.2.1, Hoff.out]; rfl) rfl, hh⟩))
  clear hn hq d fin qle hE hform S1 hoff
  obtain ⟨ar, har⟩ : ∃ ar, ar = E.arm.isSome := ⟨_, rfl⟩
  rw [← har] at S2
  by_cases hlt : n < D.q.length
  · obtain ⟨g, rfl⟩ : ∃ g, a = some ⟨g, 0, none⟩ := by
      rcases Hform.out with ⟨_, h0⟩ | h0
      · rw [h0] at hlt; simp at hlt
      · exact h0
    obtain ⟨i, s, hp⟩ : ∃ i s, D.q[n] = (i, s) := ⟨_, _, rfl⟩
    obtain ⟨hin, hss⟩ := hqok.out (i, s) (by rw [← hp]; exact List.getElem_mem hlt)
    simp only at hin hss
    have qc : ∀ w1, RefAt w1 h E → w1.cell? ⟨g, n * 2, none⟩ = some (.int .i64 (i : Int)) ∧ w1.cell? ⟨g, n * 2 + 1, none⟩ = some (.string s) := by
      intro w1 d1
      have := rque_cell d1 (g := g) (c := c) (by rw [Qle.out.1]; exact Hq.out) n (by rw [Qle.out.1]; exact hlt)
      simp only [Qle.out.1, hp] at this
      exact this
    have Fin1 := Lib.hid (Fin.out (some (i, s)) (by rw [List.getElem?_eq_getElem hlt, hp]))
    obtain ⟨k, hk⟩ : ∃ k, k = cut y 64 := ⟨_, rfl⟩
    have HK := Lib.hid (show (k : Int) = min (max y 0) 64 by rw [hk]; unfold cut; omega)
    have hk64 : k ≤ 64 := by rw [hk]; exact cut_le _ _
    have hinE : i < E.n := by rw [Qle.out.2.1]; exact hin
    have QC := Lib.hid qc
    have Hk := Lib.hid hk; have Hss := Lib.hid hss
    have hks : (k : Int) ≤ s.size := by omega
    have hks2 : k ≤ s.size := by omega
    have hss64 : s.size = 64 := hss
    have hk64' : (k : Int) ≤ 64 := by omega
    clear qc hk hp hss hin
    go_enter Try.func34, Try.ntmps34
    go_upto_region 1 with (fail)
    go_cut [6] (fun v wx => v = .int .i64 (n : Int) ∧ wx = w)
    case first =>
      go_wp2_with (fail)
      all_goals go_meet
      all_goals exact ⟨congrArg (Value.int IntKind.i64) (by have := HN.out; omega), rfl⟩
    case rest =>
      obtain ⟨rfl, rfl⟩ := hcut
      go_wp2_with (fail)
      refine S2.out.mono ?_
      rintro e w1 ⟨rfl, ⟨g0, g2, g3, g4, f2, f3, f4, gb⟩, D1⟩
      obtain ⟨q0, q1⟩ := QC.out w1 D1.out.1
      have gl := World.block_lt_of_cell? w1 _ q0
      go_upto_region 5 with (fail)
      have DW := Lib.hid (D1.out.1.kept (S := fun _ => False) ((Chg.refl _ _).alloc (.cells #[.int .i64 (i : Int), .string s] 73)) (fun _ _ h => h))
      have CW := Lib.hid (D1.out.2.alloc (.cells #[.int .i64 (i : Int), .string s] 73))
      have p0 : (w1.alloc (.cells #[.int .i64 (i : Int), .string s] 73)).cell? ⟨w1.heap.size, 0, none⟩ = some (.int .i64 (i : Int)) := by rw [cell_of_blk (heap_alloc_new _ _)]; rfl
      have p1 : (w1.alloc (.cells #[.int .i64 (i : Int), .string s] 73)).cell? ⟨w1.heap.size, 1, none⟩ = some (.string s) := by rw [cell_of_blk (heap_alloc_new _ _)]; rfl
      obtain ⟨W, hW⟩ : ∃ W, W = w1.alloc (.cells #[.int .i64 (i : Int), .string s] 73) := ⟨_, rfl⟩
      rw [← hW] at DW CW p0 p1
      rw [← hW]
      obtain ⟨gp, hgp⟩ : ∃ gp, gp = w1.heap.size := ⟨_, rfl⟩
      rw [← hgp] at p0 p1
      rw [← hgp]
      clear hW hgp D1 g0 g2 g3 g4 f2 f3 f4 gb q0 q1 gl
      obtain ⟨g0, g2, g3, g4, f2, f3, f4, gb⟩ := DW.out.seen rfl Hq.out (show (!E.off) = true by rw [Qle.out.2.2.1, Hoff.out]; rfl) rfl
      have HE2 : Hid (E.torn (some (i, s)) y = if 0 < k then E.put i ((ba s).take k ++ (E.st i).drop k) else E) := by
        show E.torn (some (i, s)) y = _
        unfold DS.torn
        dsimp only
        rw [← Hk.out]
        split
        · have hl : ((ba s).take k).length = k := by rw [List.length_take, ba_length, Hss.out]; omega
          unfold DS.set DS.put over
          rw [hl]
        · rfl
      go_cut [8] (fun v wx => v = .int .i64 (k : Int) ∧ wx = W)
      case first =>
        go_wp2_with (fail)
        all_goals go_meet
        all_goals exact ⟨congrArg (Value.int IntKind.i64) (by have := HK.out; omega), rfl⟩
      case rest =>
        obtain ⟨rfl, rfl⟩ := hcut
        by_cases hk0 : 0 < k
        · have tk : decide (0 < (k : Int)) = true := by simp; omega
          have st := DW.out.sst.cell i hinE
          have hz : (mkB (E.st i)).size = 64 := by rw [size_mkB]; exact DW.out.wf.stl i
          have hll : ((ba s).take k ++ (E.st i).drop k).length = 64 := by
            have h1 := DW.out.wf.stl i
            have h2 := ba_length s
            rw [List.length_append, List.length_take, List.length_drop, h1, h2, Hss.out]; omega
          have hss : ∀ Z, Z = mkB (E.st i) → s.extract 0 k ++ Z.extract k 64 = mkB ((ba s).take k ++ (E.st i).drop k) := by
            intro Z hZ
            apply eq_of_ba
            have hl : (ba Z).length = 64 := by rw [hZ, ba_mkB]; exact DW.out.wf.stl i
            rw [ba_mkB, ba_append, ba_extract, ba_extract3, List.take_of_length_le (l := (ba Z).drop k) (by rw [List.length_drop, hl]; exact Nat.le_refl _), hZ, ba_mkB]
          obtain ⟨Z, hZ⟩ : ∃ Z, Z = mkB (E.st i) := ⟨_, rfl⟩
          have HSS := Lib.hid (hss Z hZ)
          rw [← hZ] at st hz
          have DWd := Lib.hid (DW.out.kept (S := fun _ => False) ((Chg.refl _ _).drew) (fun _ _ h => h))
          have HLL := Lib.hid hll
          clear hss hZ hll
          go_wp2_with (fail)
          go_still_tail 18, (by kernel_rfl)
          change wpList _ _ _ _ _ wc.drew
          go_wp2_with (go_at_call 46; refine (rset_ok h E i ((ba s).take k ++ (E.st i).drop k) _ DWd.out hinE HLL.out _ HSS.out).mono ?_; rintro e w2 ⟨rfl, D2⟩; obtain ⟨g0, g2, g3, g4, f2, f3, f4, gb⟩ := D2.out.1.seen rfl Hq.out (show (!E.off) = true by rw [Qle.out.2.2.1, Hoff.out]; rfl) rfl)
          go_end0
          refine ⟨rfl, ?_⟩
          rw [← Fin1.out, HE2.out, if_pos hk0]
          exact RTurn.of (CW.out.drew.trans D2.out.2 (fun _ _ h => h)) D2.out.1.down
        · have tk : decide (0 < (k : Int)) = false := by simp; omega
          go_wp2
          go_end0
          refine ⟨rfl, ?_⟩
          rw [← Fin1.out, HE2.out, if_neg hk0]
          exact RTurn.of CW.out DW.out.down
  · have Fin0 := Lib.hid (Fin.out none (List.getElem?_eq_none (by omega)))
    have tn : decide ((n : Int) < (D.q.length : Int)) = false := by simp; omega
    go_enter Try.func34, Try.ntmps34
    go_upto_region 1 with (fail)
    go_cut [6] (fun v wx => v = .int .i64 (n : Int) ∧ wx = w)
    case first =>
      go_wp2_with (fail)
      all_goals go_meet
      all_goals exact ⟨congrArg (Value.int IntKind.i64) (by have := HN.out; omega), rfl⟩
    case rest =>
      obtain ⟨rfl, rfl⟩ := hcut
      go_wp2_with (fail)
      refine S2.out.mono ?_
      rintro e w1 ⟨rfl, ⟨g0, g2, g3, g4, f2, f3, f4, gb⟩, D1⟩
      go_wp2
      go_end0
      refine ⟨rfl, ?_⟩
      rw [← Fin0.out]
      exact RTurn.of D1.out.2 D1.out.1.down

/-- Fail, on or off. -/
theorem rfail_ok (h : RH) (D : DS) (x y : Int) (w : World) (d : RefAt w h D) (hml : D.q.length ≤ 1000) :
    Calls Try.prog 34 #[.pointer (some ⟨h.b, 0, none⟩), .int .i64 x, .int .i64 y] w fun e w' => e = .returned (.tuple #[]) ∧ RTurn w w' h (D.fail x y) := by
  cases ho : D.off with
  | false => exact rfail_on h D x y w d ho hml
  | true =>
    have e : D.fail x y = D := by simp [DS.fail, ho]
    have hb := d.hb
    have c3 := d.c3
    rw [ho] at c3
    simp only [Bool.not_true] at c3
    have T := Lib.hid (RTurn.same d (Chg.refl _ _))
    rw [e]
    clear d ho e
    go_enter Try.func34, Try.ntmps34
    go_wp2
    refine bodyPost_ret (results_none rfl _ _ _) rfl ?_
    exact ⟨rfl, T.out⟩
end Go.Proofs.Ytageboekobkdcaa
