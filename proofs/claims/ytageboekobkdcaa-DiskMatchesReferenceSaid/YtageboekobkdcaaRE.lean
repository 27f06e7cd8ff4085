/- The reference disk: count, Sync. -/
import Derived.Test.YtageboekobkdcaaRD
namespace Go.Proofs.Ytageboekobkdcaa
open Go.RowKit

set_option maxHeartbeats 2000000 in
theorem rcount_ok (h : RH) (D : DS) (w : World) (d : RefAt w h D) (hml : D.q.length ≤ 1000) :
    Calls Try.prog 44 #[.pointer (some ⟨h.b, 0, none⟩)] w fun e w' => e = .returned (.int .i64 D.count.1) ∧ RTurn w w' h D.count.2 := by
  have hb := d.hb
  have c4 := d.c4; have c5 := d.c5; have c6 := d.c6; have c7 := d.c7
  have f5 := d.fz 5
  cases ha : D.arm with
  | none =>
    have e : D.count = (0, D) := by unfold DS.count; rw [ha]
    rw [e]
    rw [ha] at c4
    simp only [Option.isSome_none] at c4
    have T := Lib.hid (RTurn.same d (Chg.refl _ _))
    clear d ha e
    go_enter Try.func44, Try.ntmps44
    go_wp2
    go_ret
    exact ⟨rfl, T.out⟩
  | some t =>
    obtain ⟨a, x, y⟩ := t
    have e : D.count = if 0 < a then (0, { D with arm := some (a - 1, x, y) }) else (19, D.fail x y) := by unfold DS.count; rw [ha]
    have hr := d.wf.arm a x y ha
    obtain ⟨ea, ex, ey⟩ := d.alm a x y ha
    rw [ha] at c4
    simp only [Option.isSome_some] at c4
    rw [ea] at c5; rw [ex] at c6; rw [ey] at c7
    by_cases h0 : a = 0
    · rw [e, if_neg (by omega)]
      have t0 : (a == 0) = true := by simpa using h0
      have DWd := Lib.hid (d.kept (S := fun _ => False) ((Chg.refl _ _).drew) (fun _ _ h => h))
      subst h0
      clear d ha e hr ea ex ey
      go_enter Try.func44, Try.ntmps44
      go_wp2
      go_still_tail 9, (by kernel_rfl)
      change wpList _ _ _ _ _ w.drew
      go_wp2_with (go_at_call 34; refine (rfail_ok h D x y _ DWd.out hml).mono ?_; rintro e w2 ⟨rfl, D2⟩)
      go_ret
      exact ⟨rfl, RTurn.behind (Chg.refl _ _).drew D2⟩
    · have hp : 0 < a := by omega
      rw [e, if_pos hp]
      have t0 : (a == 0) = false := by simpa using h0
      have T : RTurn w (w.setCell ⟨h.b, 5, none⟩ (.int .i64 (a - 1))) h { D with arm := some (a - 1, x, y) } := by
        have b5 := setCell_blk d.blk 5 (.int .i64 (a - 1))
        refine d.reblk { h with a := a - 1 } rfl rfl rfl ?_ (chg_setCell w h.b 5 _) rfl rfl rfl (.inl ⟨rfl, rfl⟩) ?_ ⟨d.wf.n1, d.wf.n2, d.wf.stl, d.wf.ell, d.wf.qok, ?_⟩
        · rw [b5]
          simp only [refCells, ha]
          rfl
        · intro a1 x1 y1 he
          simp only [Option.some.injEq, Prod.mk.injEq] at he
          exact ⟨he.1, ex.trans he.2.1, ey.trans he.2.2⟩
        · intro a1 x1 y1 he
          simp only [Option.some.injEq, Prod.mk.injEq] at he
          omega
      have HT := Lib.hid T
      clear T d ha e ea ex ey
      go_enter Try.func44, Try.ntmps44
      go_wp2
      go_ret
      exact ⟨rfl, HT.out⟩

/-- count behind a call that has turned the disk. -/
theorem rcount_behind {w W : World} {h : RH} {D : DS} (t : RTurn w W h D) (hml : D.q.length ≤ 1000) :
    Calls Try.prog 44 #[.pointer (some ⟨h.b, 0, none⟩)] W fun e w' => e = .returned (.int .i64 D.count.1) ∧ RTurn w w' h D.count.2 := by
  obtain ⟨h', d, hb, c, ho⟩ := t
  rw [← hb]
  exact (rcount_ok h' D W d hml).mono fun e w' ⟨he, t'⟩ => ⟨he, t'.trans hb c ho⟩

theorem RefAt.cleaned {w : World} {h : RH} {D : DS} (d : RefAt w h (D.settle D.q)) : RTurn w (w.setCell ⟨h.b, 2, none⟩ (.slice none 0 0)) h D.clean := by
  have b3 := setCell_blk d.blk 2 (.slice none 0 0)
  have hw : D.clean.wf := ⟨d.wf.n1, d.wf.n2, d.wf.stl, d.wf.ell, by simp [DS.clean], d.wf.arm⟩
  exact d.reblk { h with qv := .slice none 0 0 } rfl rfl rfl b3 (chg_setCell w h.b 2 _) rfl rfl rfl (.inr ⟨rfl, rfl⟩) d.alm hw

set_option maxHeartbeats 2000000 in
theorem rsync_ok (h : RH) (D : DS) (w : World) (d : RefAt w h D) (hml : D.q.length ≤ 1000) :
    Calls Try.prog 33 #[.pointer (some ⟨h.b, 0, none⟩)] w fun e w' => e = .returned (.int .i64 D.sync.1) ∧ RTurn w w' h D.sync.2 := by
  have hb := d.hb
  have c3 := d.c3
  cases ho : D.off with
  | true =>
    have e : D.sync = (19, D) := by simp [DS.sync, ho]
    rw [e]
    rw [ho] at c3
    simp only [Bool.not_true] at c3
    have T := Lib.hid (RTurn.same d (Chg.refl _ _))
    clear d ho e
    go_enter Try.func33, Try.ntmps33
    go_wp2
    go_ret
    exact ⟨rfl, T.out⟩
  | false =>
    have e : D.sync = if D.count.1 ≠ 0 then D.count else (0, D.count.2.clean) := by simp [DS.sync, ho]
    rw [ho] at c3
    simp only [Bool.not_false] at c3
    have HC := Lib.hid (rcount_ok h D w d hml)
    have hcl : D.count.2.q.length ≤ 1000 := Nat.le_trans (DS.len_count D) hml
    have h19 : D.count.1 = 0 ∨ D.count.1 = 19 := by
      unfold DS.count; split
      · exact .inl rfl
      · split
        · exact .inl rfl
        · exact .inr rfl
    obtain ⟨r, hr⟩ : ∃ r, r = D.count.1 := ⟨_, rfl⟩
    obtain ⟨E, hE⟩ : ∃ E, E = D.count.2 := ⟨_, rfl⟩
    have hce : D.count = (r, E) := by rw [hr, hE]
    rw [← hr] at h19
    rw [← hE] at hcl
    rw [← hr, ← hE] at HC
    rw [hce] at e
    dsimp only at e
    clear hce hr hE
    rcases h19 with h0 | h0
    · subst h0
      rw [if_neg (by simp)] at e
      rw [e]
      clear e d ho
      go_enter Try.func33, Try.ntmps33
      go_wp2_with (fail)
      refine HC.out.mono ?_
      rintro e w1 ⟨rfl, h1, d1, hb1, c1, o1⟩
      rw [← hb1]
      obtain ⟨a, cp, hq, _, _⟩ := d1.qform
      have g2 := d1.c2
      rw [hq] at g2
      have SO := Lib.hid (rsettle_ok h1 E E.q.length w1 d1 (Nat.le_refl _) hcl)
      have C1 := Lib.hid c1
      have B1 := Lib.hid hb1; have O1 := Lib.hid o1
      have hbl := d1.hb
      clear d1 c1 hb1 o1 hq
      go_wp2_with (fail)
      refine SO.out.mono ?_
      rintro e w2 ⟨rfl, D2⟩
      have D3 := Lib.hid (show RefAt w2 h1 (E.settle E.q) by have := D2.out.1; rw [List.take_length] at this; exact this)
      have k2 := D3.out.c2
      have kf := D3.out.fz 2
      have kb := D3.out.hb
      obtain ⟨qv, hqv⟩ : ∃ qv, qv = h1.qv := ⟨_, rfl⟩
      rw [← hqv] at k2
      go_wp2
      go_ret
      refine ⟨rfl, ?_⟩
      exact RTurn.trans B1.out C1.out O1.out (RTurn.of D2.out.2 D3.out.cleaned)
    · subst h0
      rw [if_pos (by decide)] at e
      rw [e]
      clear e d ho
      go_enter Try.func33, Try.ntmps33
      go_wp2_with (fail)
      refine HC.out.mono ?_
      rintro e w1 ⟨rfl, T1⟩
      go_wp2
      go_ret
      exact ⟨rfl, T1⟩
end Go.Proofs.Ytageboekobkdcaa
