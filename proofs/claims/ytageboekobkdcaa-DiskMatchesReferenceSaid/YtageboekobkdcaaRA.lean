/- The reference disk: Start, Arm. -/
import Derived.Test.YtageboekobkdcaaRM
namespace Go.Proofs.Ytageboekobkdcaa
open Go.RowKit

set_option maxHeartbeats 1000000 in
theorem rstart_ok (h : RH) (D : DS) (w : World) (d : RefAt w h D) : Calls Try.prog 35 #[.pointer (some ⟨h.b, 0, none⟩)] w fun e w' => e = .returned (.tuple #[]) ∧ RTurn w w' h D.start := by
  have c3 := d.c3; have c4 := d.c4
  have f3 := d.fz 3; have f4 := d.fz 4
  have hb := d.hb
  have T : RTurn w ((w.setCell ⟨h.b, 3, none⟩ (.bool true)).setCell ⟨h.b, 4, none⟩ (.bool false)) h D.start := by
    have b2 := setCell_blk d.blk 3 (.bool true)
    have b3 := setCell_blk b2 4 (.bool false)
    exact d.reblk h rfl rfl rfl b3 ((chg_setCell w h.b 3 _).trans (chg_setCell _ h.b 4 _) (fun _ _ h => h)) rfl rfl rfl (.inl ⟨rfl, rfl⟩) (fun a x y he => by simp [DS.start] at he) d.wf.start
  have HT := Lib.hid T
  clear T d
  go_enter Try.func35, Try.ntmps35
  go_wp2
  go_end0
  exact ⟨rfl, HT.out⟩

set_option maxHeartbeats 1000000 in
theorem rarm_ok (h : RH) (D : DS) (a x y : Int) (w : World) (d : RefAt w h D) (ha : a ≤ 9223372036854775807) : Calls Try.prog 36 #[.pointer (some ⟨h.b, 0, none⟩), .int .i64 a, .int .i64 x, .int .i64 y] w fun e w' => e = .returned (.tuple #[]) ∧ RTurn w w' h (D.toArm a x y) := by
  have c3 := d.c3; have c4 := d.c4; have c5 := d.c5; have c6 := d.c6; have c7 := d.c7
  have f3 := d.fz 3; have f4 := d.fz 4; have f5 := d.fz 5; have f6 := d.fz 6; have f7 := d.fz 7
  have hb := d.hb
  cases ho : D.off with
  | true =>
    have T := Lib.hid (RTurn.same d (Chg.refl _ _))
    have e : D.toArm a x y = D := by simp [DS.toArm, ho]
    rw [e]
    rw [ho] at c3
    simp only [Bool.not_true] at c3
    clear d ho e
    go_enter Try.func36, Try.ntmps36
    go_wp2
    refine bodyPost_ret (results_none rfl _ _ _) rfl ?_
    exact ⟨rfl, T.out⟩
  | false =>
    have T : RTurn w ((((w.setCell ⟨h.b, 4, none⟩ (.bool (decide (0 ≤ a)))).setCell ⟨h.b, 5, none⟩ (.int .i64 a)).setCell ⟨h.b, 6, none⟩ (.int .i64 x)).setCell ⟨h.b, 7, none⟩ (.int .i64 y)) h (D.toArm a x y) := by
      have b4 := setCell_blk d.blk 4 (.bool (decide (0 ≤ a)))
      have b5 := setCell_blk b4 5 (.int .i64 a)
      have b6 := setCell_blk b5 6 (.int .i64 x)
      have b7 := setCell_blk b6 7 (.int .i64 y)
      have e : D.toArm a x y = { D with arm := if 0 ≤ a then some (a, x, y) else none } := by simp [DS.toArm, ho]
      have hs : (if 0 ≤ a then some (a, x, y) else none).isSome = decide (0 ≤ a) := by split <;> simp_all
      refine d.reblk { h with a := a, x := x, y := y } rfl rfl rfl ?_ ((((chg_setCell w h.b 4 _).trans (chg_setCell _ h.b 5 _) (fun _ _ h => h)).trans (chg_setCell _ h.b 6 _) (fun _ _ h => h)).trans (chg_setCell _ h.b 7 _) (fun _ _ h => h)) (by rw [e]) (by rw [e]) (by rw [e]) (.inl ⟨rfl, by rw [e]⟩) ?_ (d.wf.toArm a x y ha)
      · rw [b7, e]
        simp only [refCells, hs]
        rfl
      · intro a1 x1 y1 he
        rw [e] at he
        dsimp only at he
        split at he
        · simp only [Option.some.injEq, Prod.mk.injEq] at he; exact he
        · cases he
    have HT := Lib.hid T
    rw [ho] at c3
    simp only [Bool.not_false] at c3
    clear T d ho
    go_enter Try.func36, Try.ntmps36
    go_wp2
    go_end0
    exact ⟨rfl, HT.out⟩
end Go.Proofs.Ytageboekobkdcaa
