/- What a drop and a cast do to a row: contracts. Conditions: strconv's three variables hold what its initialisers lay. -/
import Derived.Test.YtfifnemnihcijaaGreatDoorKTe
import Derived.Test.YtfifnemnihcijaaGreatDoorKTb
import Derived.Test.YtfifnemnihcijaaGreatDoorKVp
set_option linter.unusedSimpArgs false
set_option linter.unusedVariables false
namespace Go.Proofs.YtfifnemnihcijaaGreatDoor
open Go.RowKit

theorem V.clen (v : V) : v.cells.length = 3 := rfl
theorem V.one (v : V) : ∀ u ∈ v.cells, u.oneCell' = true := by
  intro u hu
  simp only [V.cells, List.mem_cons, List.not_mem_nil, or_false] at hu
  rcases hu with rfl | rfl | rfl <;> rfl
set_option maxHeartbeats 1000000 in
theorem drop3_ok (B g n c0 i : Nat) (row : List V) (k to_ dk dn : Int) (tt aa nn ds : ByteArray) (w : World) (hB : B ≤ w.heap.size) (hn : n ≤ 1000000) (hi : i < n) (hl : row.length = n) (own : w.ownsRow B 26 3 (.slice (some ⟨g, 0, none⟩) n c0) n (row.flatMap V.cells)) :
    Calls Tryz.prog 109 #[.slice (some ⟨g, 0, none⟩) n c0, .agg #[.int .i64 k, .string tt, .string aa, .string nn, .int .i64 to_, .int .i64 dk, .int .i64 dn, .string ds], .int .i64 i] w fun e w' => e = .returned (.tuple #[.slice (some ⟨g, 0, none⟩) (n - 1) c0, .int .i64 0]) ∧
      w'.ownsRow B 26 3 (.slice (some ⟨g, 0, none⟩) (n - 1) c0) (n - 1) ((row.eraseIdx i).flatMap V.cells) ∧ Below B w w' := by
  have h1 : ∀ u ∈ row.flatMap V.cells, u.oneCell' = true := by
    intro u hu
    obtain ⟨r, _, hr⟩ := List.mem_flatMap.1 hu
    exact r.one u hr
  have hgB := (own.lt g rfl).1
  obtain ⟨bx, hbx⟩ : ∃ bx, bx = Obj.cells #[.int .i64 k, .string tt, .string aa, .string nn, .int .i64 to_, .int .i64 dk, .int .i64 dn, .string ds] 28 := ⟨_, rfl⟩
  have HD : Hid (Calls Tryz.prog 110 #[.slice (some ⟨g, 0, none⟩) n c0, .int .i64 i, .int .i64 ((i : Int) + 1)] (w.alloc bx) fun e w' => e = .returned (.slice (some ⟨g, 0, none⟩) (n - 1) c0) ∧ w'.ownsRow B 26 3 (.slice (some ⟨g, 0, none⟩) (n - 1) c0) (n - 1) ((row.flatMap V.cells).take (i * 3) ++ (row.flatMap V.cells).drop ((i + 1) * 3)) ∧ (w.alloc bx).grownBy w' (some g)) :=
    delV_ok B g n c0 i (i + 1) _ (w.alloc bx) (own.alloc bx) h1 hi rfl hn
  rw [flat_erase V.clen row i (by omega)] at HD
  rw [hbx] at HD
  have HB := Lib.hid hB
  clear own h1 hbx hB
  have hi' : (i : Int) + 1 ≤ 1000000 := by omega
  go_enter Tryz.func109, Tryz.ntmps109
  go_wp2_with (fail)
  refine HD.out.mono ?_
  rintro e w2 ⟨rfl, o2, g2⟩
  have O2 := Lib.hid o2
  have B2 : Hid (Below B w w2) := Below.grown ((Below.refl B w).alloc HB.out _) g2 (Nat.le_trans HB.out (by simp)) (fun k hk => by injection hk with hk; omega)
  clear o2 g2
  go_wp2_with (fail)
  go_ret2
  exact ⟨rfl, O2.out, B2.out⟩

theorem own_set3 {w : World} {B g n c i : Nat} {row : List V} (o : w.ownsRow B 26 3 (.slice (some ⟨g, 0, none⟩) n c) n (row.flatMap V.cells)) (hl : row.length = n) (hi : i < n) (v : V) :
    (((w.setCell ⟨g, i * 3, none⟩ (.int .i64 v.k)).setCell ⟨g, i * 3 + 1, none⟩ (.int .i64 v.n)).setCell ⟨g, i * 3 + 2, none⟩ (.string v.s)).ownsRow B 26 3 (.slice (some ⟨g, 0, none⟩) n c) n ((row.set i v).flatMap V.cells) := by
  obtain ⟨⟨k0, n0, s0⟩, hr⟩ : ∃ r, r = row[i]'(by omega) := ⟨_, rfl⟩
  have o1 := own_set (y := (⟨v.k, n0, s0⟩ : V)) V.clen o hl i hi 0 (by decide) (.int .i64 v.k) (by rw [← hr]; rfl)
  have o2 := own_set (y := (⟨v.k, v.n, s0⟩ : V)) V.clen o1 (by rw [List.length_set]; exact hl) i hi 1 (by decide) (.int .i64 v.n) (by rw [List.getElem_set_self]; rfl)
  have o3 := own_set (y := (⟨v.k, v.n, v.s⟩ : V)) V.clen o2 (by rw [List.length_set, List.length_set]; exact hl) i hi 2 (by decide) (.string v.s) (by rw [List.getElem_set_self]; rfl)
  simpa [List.set_set] using o3

def CastOut (B g n c0 : Nat) (row : List V) (i : Nat) (p : V × Int) (w w' : World) (e : Ending) : Prop :=
  (p.2 = 0 ∧ e = .returned (.tuple #[.slice (some ⟨g, 0, none⟩) n c0, .int .i64 0]) ∧ w'.ownsRow B 26 3 (.slice (some ⟨g, 0, none⟩) n c0) n ((row.set i p.1).flatMap V.cells) ∨
    p.2 ≠ 0 ∧ e = .returned (.tuple #[.slice none 0 0, .int .i64 15])) ∧ Below B w w'
set_option maxHeartbeats 4000000 in
set_option maxRecDepth 100000 in
theorem cast3_ok (B g n c0 i : Nat) (row : List V) (k to_ dk dn : Int) (tt aa nn ds : ByteArray) (w : World) (l : Laid w) (hB : B ≤ w.heap.size) (hn : n ≤ 1000000) (hi : i < n) (hl : row.length = n) (own : w.ownsRow B 26 3 (.slice (some ⟨g, 0, none⟩) n c0) n (row.flatMap V.cells)) :
    Calls Tryz.prog 117 #[.slice (some ⟨g, 0, none⟩) n c0, .agg #[.int .i64 k, .string tt, .string aa, .string nn, .int .i64 to_, .int .i64 dk, .int .i64 dn, .string ds], .int .i64 i] w fun e w' => CastOut B g n c0 row i (castP (row[i]'(by omega)) to_) w w' e := by
  have hgB := (own.lt g rfl).1
  have hgl := (own.lt g rfl).2
  have HC := Lib.hid (fun W (s : Same w W) => cast_ok (row[i]'(by omega)) to_ W (l.same s))
  have d0 := own_cell V.clen own hl i hi 0 (by decide)
  have d1 := own_cell V.clen own hl i hi 1 (by decide)
  have d2 := own_cell V.clen own hl i hi 2 (by decide)
  have HO := Lib.hid (fun (W : World) (s : Same w W) => own_set3 (own_same s own) hl hi (castP (row[i]'(by omega)) to_).1)
  obtain ⟨g', cur, hA, _, hk, _⟩ := own_blk own (by omega)
  injection hA with hA
  injection hA with e
  subst e
  have HF := Lib.hid (fun (W : World) (s : Same w W) (j : Nat) => (s.frees g j hk.lt).trans (hk.frozen j))
  obtain ⟨⟨cv, ce⟩, hcv⟩ : ∃ p, p = castP (row[i]'(by omega)) to_ := ⟨_, rfl⟩
  rw [← hcv] at HC HO ⊢
  obtain ⟨⟨v0, v1, v2⟩, hv⟩ : ∃ v, v = row[i]'(by omega) := ⟨_, rfl⟩
  rw [← hv] at HC d0 d1 d2
  obtain ⟨q0, q1, q2⟩ := cv
  have e0 : w.cell? ⟨g, i * 3, none⟩ = some (.int .i64 v0) := d0
  have e1 : w.cell? ⟨g, i * 3 + 1, none⟩ = some (.int .i64 v1) := d1
  have e2 : w.cell? ⟨g, i * 3 + 2, none⟩ = some (.string v2) := d2
  have HC' : Hid (∀ W, Same w W → Calls Tryz.prog 118 #[.agg #[.int .i64 v0, .int .i64 v1, .string v2], .int .i64 to_] W fun e w' => e = .returned (.tuple #[.agg #[.int .i64 q0, .int .i64 q1, .string q2], .int .i64 ce]) ∧ Same W w') := HC
  have HO' : Hid (∀ W, Same w W → (((W.setCell ⟨g, i * 3, none⟩ (.int .i64 q0)).setCell ⟨g, i * 3 + 1, none⟩ (.int .i64 q1)).setCell ⟨g, i * 3 + 2, none⟩ (.string q2)).ownsRow B 26 3 (.slice (some ⟨g, 0, none⟩) n c0) n ((row.set i ⟨q0, q1, q2⟩).flatMap V.cells)) := HO
  clear HO
  have HB := Lib.hid hB
  have hz : g ≠ w.heap.size := by omega
  clear own hk hcv hv d0 d1 d2 HC hB l
  by_cases hce : ce = 0
  · subst hce
    go_enter Tryz.func117, Tryz.ntmps117
    go_wp2_with (fail)
    go_region_held3 (fun w' => w'.cell? ⟨g, i * 3, none⟩ = some (.int .i64 v0) ∧ w'.cell? ⟨g, i * 3 + 1, none⟩ = some (.int .i64 v1) ∧ w'.cell? ⟨g, i * 3 + 2, none⟩ = some (.string v2) ∧ w'.cell? ⟨w.heap.size, 4, none⟩ = some (.int .i64 to_)) (first | (simp [*]; done) | (simp [*, cell_drew, cell_far, cell_new', cell_old]; done) | ((repeat' apply And.intro) <;> (first | (simp [*]; done) | (simp [*, cell_drew, cell_far, cell_new', cell_old]; done) | go_keep)))
      (first
      | (go_at_call 118; refine (HC'.out _ ?_).mono ?_; exact (((Same.refl w).alloc _).alloc _).drew; rintro e w1 ⟨rfl, s1⟩; have S1 : Hid (Same w w1) := Same.trans ((((Same.refl w).alloc _).alloc _).drew) s1; have hz1 : w.heap.size < w1.heap.size := Nat.lt_of_lt_of_le (by simp [heap_drew] <;> omega) s1.size; have hgl1 : g < w1.heap.size := Nat.lt_of_lt_of_le hgl S1.out.size; have u0 : w1.cell? ⟨g, i * 3, none⟩ = some (.int .i64 v0) := (S1.out.cells _ _ hgl).trans e0; have u1 : w1.cell? ⟨g, i * 3 + 1, none⟩ = some (.int .i64 v1) := (S1.out.cells _ _ hgl).trans e1; have u2 : w1.cell? ⟨g, i * 3 + 2, none⟩ = some (.string v2) := (S1.out.cells _ _ hgl).trans e2; have u3 : w1.cell? ⟨w.heap.size, 4, none⟩ = some (.int .i64 to_) := (s1.cells _ _ (by simp [heap_drew] <;> omega)).trans (by simp [cell_drew]); have fr0 := HF.out w1 S1.out (i * 3); have fr1 := HF.out w1 S1.out (i * 3 + 1); have fr2 := HF.out w1 S1.out (i * 3 + 2); have m0 : w1.cell? ⟨w.heap.size + 1, 0, none⟩ = some (.int .i64 0) := (s1.cells _ _ (by simp [heap_drew] <;> omega)).trans (by simp [cell_drew]); have f0 : w1.frozen? ⟨w.heap.size + 1, 0, none⟩ = false := (s1.frees _ _ (by simp [heap_drew] <;> omega)).trans (by simp); have m1 : w1.cell? ⟨w.heap.size + 1, 1, none⟩ = some (.int .i64 0) := (s1.cells _ _ (by simp [heap_drew] <;> omega)).trans (by simp [cell_drew]); have f1 : w1.frozen? ⟨w.heap.size + 1, 1, none⟩ = false := (s1.frees _ _ (by simp [heap_drew] <;> omega)).trans (by simp); have m2 : w1.cell? ⟨w.heap.size + 1, 2, none⟩ = some (.string ⟨#[]⟩) := (s1.cells _ _ (by simp [heap_drew] <;> omega)).trans (by simp [cell_drew]); have f2 : w1.frozen? ⟨w.heap.size + 1, 2, none⟩ = false := (s1.frees _ _ (by simp [heap_drew] <;> omega)).trans (by simp); have hz2 : w.heap.size + 1 < w1.heap.size := Nat.lt_of_lt_of_le (by simp [heap_drew] <;> omega) s1.size; have hgn : g ≠ w.heap.size + 1 := (by omega); clear s1)
      | (go_at_call 118; refine (HC'.out _ ?_).mono ?_; exact ((Same.refl w).alloc _).drew; rintro e w1 ⟨rfl, s1⟩; have S1 : Hid (Same w w1) := Same.trans (((Same.refl w).alloc _).drew) s1; have hz1 : w.heap.size < w1.heap.size := Nat.lt_of_lt_of_le (by simp [heap_drew] <;> omega) s1.size; have hgl1 : g < w1.heap.size := Nat.lt_of_lt_of_le hgl S1.out.size; have u0 : w1.cell? ⟨g, i * 3, none⟩ = some (.int .i64 v0) := (S1.out.cells _ _ hgl).trans e0; have u1 : w1.cell? ⟨g, i * 3 + 1, none⟩ = some (.int .i64 v1) := (S1.out.cells _ _ hgl).trans e1; have u2 : w1.cell? ⟨g, i * 3 + 2, none⟩ = some (.string v2) := (S1.out.cells _ _ hgl).trans e2; have u3 : w1.cell? ⟨w.heap.size, 4, none⟩ = some (.int .i64 to_) := (s1.cells _ _ (by simp [heap_drew] <;> omega)).trans (by simp [cell_drew]); have fr0 := HF.out w1 S1.out (i * 3); have fr1 := HF.out w1 S1.out (i * 3 + 1); have fr2 := HF.out w1 S1.out (i * 3 + 2); clear s1))
    all_goals
      go_wp2_with (fail)
      go_ret2
      refine ⟨.inl ⟨rfl, rfl, ?_⟩, ?_⟩
      · first
          | with_reducible exact (HO'.out w1 S1.out).alloc _
          | ((with_reducible refine HO'.out _ ?_)
             exact ((S1.out.setCell (p := ⟨w.heap.size + 1, 0, none⟩) (Nat.le_succ _) _).setCell (p := ⟨w.heap.size + 1, 1, none⟩) (Nat.le_succ _) _).setCell (p := ⟨w.heap.size + 1, 2, none⟩) (Nat.le_succ _) _)
      · have hb := HB.out
        have hz9 := S1.out.size
        repeat (first | (with_reducible refine Below.setCell ?_ (by dsimp only; omega) _) | (with_reducible refine Below.alloc ?_ (by (try simp [World.setCell]); omega) _))
        exact Below.mono S1.out HB.out
  · have tce : (ce != 0) = true := by simp; exact hce
    have HCE := Lib.hid hce
    clear hce
    go_enter Tryz.func117, Tryz.ntmps117
    go_wp2_with (fail)
    go_region_held3 (fun w' => w'.cell? ⟨g, i * 3, none⟩ = some (.int .i64 v0) ∧ w'.cell? ⟨g, i * 3 + 1, none⟩ = some (.int .i64 v1) ∧ w'.cell? ⟨g, i * 3 + 2, none⟩ = some (.string v2) ∧ w'.cell? ⟨w.heap.size, 4, none⟩ = some (.int .i64 to_)) (first | (simp [*]; done) | (simp [*, cell_drew, cell_far, cell_new', cell_old]; done) | ((repeat' apply And.intro) <;> (first | (simp [*]; done) | (simp [*, cell_drew, cell_far, cell_new', cell_old]; done) | go_keep)))
      (first
      | (go_at_call 118; refine (HC'.out _ ?_).mono ?_; exact (((Same.refl w).alloc _).alloc _).drew; rintro e w1 ⟨rfl, s1⟩; have S1 : Hid (Same w w1) := Same.trans ((((Same.refl w).alloc _).alloc _).drew) s1; have hz1 : w.heap.size < w1.heap.size := Nat.lt_of_lt_of_le (by simp [heap_drew] <;> omega) s1.size; have hgl1 : g < w1.heap.size := Nat.lt_of_lt_of_le hgl S1.out.size; have u0 : w1.cell? ⟨g, i * 3, none⟩ = some (.int .i64 v0) := (S1.out.cells _ _ hgl).trans e0; have u1 : w1.cell? ⟨g, i * 3 + 1, none⟩ = some (.int .i64 v1) := (S1.out.cells _ _ hgl).trans e1; have u2 : w1.cell? ⟨g, i * 3 + 2, none⟩ = some (.string v2) := (S1.out.cells _ _ hgl).trans e2; have u3 : w1.cell? ⟨w.heap.size, 4, none⟩ = some (.int .i64 to_) := (s1.cells _ _ (by simp [heap_drew] <;> omega)).trans (by simp [cell_drew]); have fr0 := HF.out w1 S1.out (i * 3); have fr1 := HF.out w1 S1.out (i * 3 + 1); have fr2 := HF.out w1 S1.out (i * 3 + 2); have m0 : w1.cell? ⟨w.heap.size + 1, 0, none⟩ = some (.int .i64 0) := (s1.cells _ _ (by simp [heap_drew] <;> omega)).trans (by simp [cell_drew]); have f0 : w1.frozen? ⟨w.heap.size + 1, 0, none⟩ = false := (s1.frees _ _ (by simp [heap_drew] <;> omega)).trans (by simp); have m1 : w1.cell? ⟨w.heap.size + 1, 1, none⟩ = some (.int .i64 0) := (s1.cells _ _ (by simp [heap_drew] <;> omega)).trans (by simp [cell_drew]); have f1 : w1.frozen? ⟨w.heap.size + 1, 1, none⟩ = false := (s1.frees _ _ (by simp [heap_drew] <;> omega)).trans (by simp); have m2 : w1.cell? ⟨w.heap.size + 1, 2, none⟩ = some (.string ⟨#[]⟩) := (s1.cells _ _ (by simp [heap_drew] <;> omega)).trans (by simp [cell_drew]); have f2 : w1.frozen? ⟨w.heap.size + 1, 2, none⟩ = false := (s1.frees _ _ (by simp [heap_drew] <;> omega)).trans (by simp); have hz2 : w.heap.size + 1 < w1.heap.size := Nat.lt_of_lt_of_le (by simp [heap_drew] <;> omega) s1.size; have hgn : g ≠ w.heap.size + 1 := (by omega); clear s1)
      | (go_at_call 118; refine (HC'.out _ ?_).mono ?_; exact ((Same.refl w).alloc _).drew; rintro e w1 ⟨rfl, s1⟩; have S1 : Hid (Same w w1) := Same.trans (((Same.refl w).alloc _).drew) s1; have hz1 : w.heap.size < w1.heap.size := Nat.lt_of_lt_of_le (by simp [heap_drew] <;> omega) s1.size; have hgl1 : g < w1.heap.size := Nat.lt_of_lt_of_le hgl S1.out.size; have u0 : w1.cell? ⟨g, i * 3, none⟩ = some (.int .i64 v0) := (S1.out.cells _ _ hgl).trans e0; have u1 : w1.cell? ⟨g, i * 3 + 1, none⟩ = some (.int .i64 v1) := (S1.out.cells _ _ hgl).trans e1; have u2 : w1.cell? ⟨g, i * 3 + 2, none⟩ = some (.string v2) := (S1.out.cells _ _ hgl).trans e2; have u3 : w1.cell? ⟨w.heap.size, 4, none⟩ = some (.int .i64 to_) := (s1.cells _ _ (by simp [heap_drew] <;> omega)).trans (by simp [cell_drew]); have fr0 := HF.out w1 S1.out (i * 3); have fr1 := HF.out w1 S1.out (i * 3 + 1); have fr2 := HF.out w1 S1.out (i * 3 + 2); clear s1))
    all_goals
      go_wp2_with (fail)
      go_ret2
      refine ⟨.inr ⟨HCE.out, rfl⟩, ?_⟩
      have hb := HB.out
      have hz9 := S1.out.size
      repeat (first | (with_reducible refine Below.setCell ?_ (by dsimp only; omega) _) | (with_reducible refine Below.alloc ?_ (by (try simp [World.setCell]); omega) _))
      exact Below.mono S1.out HB.out
end Go.Proofs.YtfifnemnihcijaaGreatDoor
