/- What a renaming does to a table: contract. Conditions: none. -/
import Derived.Test.YtfifnemnihcijaaGreatDoorKTa
import Derived.Test.YtfifnemnihcijaaGreatDoorKMb
import Derived.Test.YtfifnemnihcijaaGreatDoorKWl
import Derived.Deep.Onto
set_option linter.unusedSimpArgs false
set_option linter.unusedVariables false
namespace Go.Proofs.YtfifnemnihcijaaGreatDoor
open Go.RowKit

theorem cell_near (w : World) (g j o : Nat) (u : Value) (h : o ≠ j) : (w.setCell ⟨g, o, none⟩ u).cell? ⟨g, j, none⟩ = w.cell? ⟨g, j, none⟩ :=
  World.cell?_setCell_other _ _ _ _ (fun e => by injection e with _ e; exact h e)
theorem reads_cell {w : World} {b : Nat} {x : Value} (h : w.cell? ⟨b, 0, none⟩ = some x) : Reads w (b + 1) 1 (some ⟨b, 0, none⟩) 1 [x] := by
  refine ⟨rfl, fun _ => ⟨_, rfl, Nat.lt_succ_self _, fun j u hu => ?_⟩⟩
  match j, hu with
  | 0, hu => simp at hu; subst hu; simpa [Addr.add] using h
  | j + 1, hu => simp at hu
theorem flat_str : ∀ l : List ByteArray, l.flatMap strCell = l.map .string
  | [] => rfl
  | x :: l => by rw [List.flatMap_cons, flat_str l]; rfl
theorem cloneS' (h : Hd) (l : List ByteArray) (w : World) (a : StrsAt w h l) (hn : h.n ≤ 1000000000) :
    Calls Tryz.prog 113 #[h.val] w fun e w' => ∃ A c, e = .returned (.slice A l.length c) ∧ Same w w' ∧ w'.ownsRow w.heap.size 9 1 (.slice A l.length c) l.length (l.map .string) := by
  have e := flat_str l
  refine (cloneS_ok h strCell (fun _ => rfl) (fun x v hv => by simp [strCell] at hv; subst hv; rfl) l w a.1 hn).mono ?_
  rintro e1 w' (⟨rfl, rfl, s⟩ | ⟨c, g, rfl, s, o⟩)
  · exact ⟨none, 0, rfl, s, rfl, .inl ⟨rfl, rfl⟩⟩
  · rw [e] at o
    exact ⟨_, c, rfl, s, o⟩

set_option maxHeartbeats 2000000 in
set_option maxRecDepth 100000 in
theorem ren2_low (g o ga a n ca : Nat) (k to_ dk dn : Int) (tt aa nn ds nm : ByteArray) (hw : Hd) (was : List ByteArray) (w : World) (hne : g ≠ ga) (hga : ga < w.heap.size) (hg : g < w.heap.size) (ha : a < n) (hn : n ≤ 9223372036854775807)
    (x1 : w.cell? ⟨g, o + 1, none⟩ = some (.slice (some ⟨ga, 0, none⟩) n ca))
    (e0 : w.cell? ⟨ga, a * 6, none⟩ = some (.string nm)) (e2 : w.cell? ⟨ga, a * 6 + 2, none⟩ = some hw.val) (fr : ∀ j, w.frozen? ⟨ga, j, none⟩ = false) (hs : StrsAt w hw was) (hl : was.length ≤ 1000000) :
    Calls Tryz.prog 112 #[.pointer (some ⟨g, o, none⟩), .agg #[.int .i64 k, .string tt, .string aa, .string nn, .int .i64 to_, .int .i64 dk, .int .i64 dn, .string ds], .int .i64 a] w fun e w' => ∃ A1 c1 w1, e = .returned (.tuple #[]) ∧
      w1.ownsRow w.heap.size 9 1 (.slice A1 (was.length + 1) c1) (was.length + 1) ((was ++ [nm]).map .string) ∧ Same w w1 ∧
      w' = ((w1.setCell ⟨ga, a * 6 + 2, none⟩ (.slice A1 (was.length + 1) c1)).setCell ⟨ga, a * 6, none⟩ (.string nn)).drew := by
  obtain ⟨i0, hi0, hiz0, hiz1, hiz2⟩ := info_parts Tryz.infoCS
  have HC := Lib.hid (fun (W : World) (s : Same w W) => cloneS' hw was W (hs.same s) (by rw [← hs.1.1]; omega))
  have f0 := fr (a * 6)
  have f2 := fr (a * 6 + 2)
  have hz : g ≠ w.heap.size := by omega
  have hz2 : ga ≠ w.heap.size := by omega
  have BD : Hid (was.length + 1 ≤ maxLen ∧ (was.length + 1) * 16 ≤ 140737488355328) := ⟨by unfold maxLen; omega, by omega⟩
  obtain ⟨A0, n0, c0⟩ := hw
  have e2' : w.cell? ⟨ga, a * 6 + 2, none⟩ = some (.slice A0 n0 c0) := e2
  have HC' : Hid (∀ W, Same w W → Calls Tryz.prog 113 #[.slice A0 n0 c0] W fun e w' => ∃ A c, e = .returned (.slice A was.length c) ∧ Same W w' ∧ w'.ownsRow W.heap.size 9 1 (.slice A was.length c) was.length (was.map .string)) := HC
  clear fr hs HC e2
  go_enter Tryz.func112, Tryz.ntmps112
  go_wp2
  refine wp_region_last (opsP := ?opsP) (S := (fun w' => w'.cell? ⟨g, o + 1, none⟩ = some (.slice (some ⟨ga, 0, none⟩) n ca) ∧ w'.cell? ⟨ga, a * 6, none⟩ = some (.string nm) ∧ w'.cell? ⟨ga, a * 6 + 2, none⟩ = some (.slice A0 n0 c0))) (n := 26) (by kernel_rfl) (lastOk_of (by kernel_rfl)) ?hp ?wk
  case hp => simp only [List.pop_toArray, List.dropLast_cons_cons, List.dropLast_singleton]; rfl
  have hHeld : (fun w' => w'.cell? ⟨g, o + 1, none⟩ = some (.slice (some ⟨ga, 0, none⟩) n ca) ∧ w'.cell? ⟨ga, a * 6, none⟩ = some (.string nm) ∧ w'.cell? ⟨ga, a * 6 + 2, none⟩ = some (.slice A0 n0 c0)) ((w.alloc (.cells #[.int .i64 k, .string tt, .string aa, .string nn, .int .i64 to_, .int .i64 dk, .int .i64 dn, .string ds] 28)).drew) := by
    show _ ∧ _ ∧ _
    (first | (simp [*]; done) | (simp [*, size_setCell, cell_drew, cell_far, cell_near, cell_new', cell_old]; done) | go_keep)
  refine wpAnyH_take (i := 0) (oi := ?oi1) (v := ?v1) ?hi1 (by kernel_rfl) (by kernel_rfl) (by kernel_rfl) ?hQ1 (Or.inl ⟨?hw1, ?hy1⟩) hHeld ?rest1
  case hi1 => simp only [List.getElem?_toArray, List.getElem?_cons_succ, List.getElem?_cons_zero]; rfl
  case hQ1 => exact fun _ _ _ h => h
  case hw1 => rfl
  case hy1 =>
    intro w' hSw
    obtain ⟨y1, y2, y3⟩ := hSw
    go_simp
    try with_reducible rfl
  try simp only [Act.put, List.setIfInBounds_toArray, List.set_cons_zero, List.set_cons_succ]
  refine wpAnyH_take (i := 1) (oi := ?oi2) (v := ?v2) ?hi2 (by kernel_rfl) (by kernel_rfl) (by kernel_rfl) ?hQ2 (Or.inl ⟨?hw2, ?hy2⟩) hHeld ?rest2
  case hi2 => simp only [List.getElem?_toArray, List.getElem?_cons_succ, List.getElem?_cons_zero]; rfl
  case hQ2 => exact fun _ _ _ h => h
  case hw2 => rfl
  case hy2 =>
    intro w' hSw
    obtain ⟨y1, y2, y3⟩ := hSw
    go_simp
    try with_reducible rfl
  try simp only [Act.put, List.setIfInBounds_toArray, List.set_cons_zero, List.set_cons_succ]
  refine wpAnyH_take (i := 2) (oi := ?oi3) (v := ?v3) ?hi3 (by kernel_rfl) (by kernel_rfl) (by kernel_rfl) ?hQ3 (Or.inl ⟨?hw3, ?hy3⟩) hHeld ?rest3
  case hi3 => simp only [List.getElem?_toArray, List.getElem?_cons_succ, List.getElem?_cons_zero]; rfl
  case hQ3 => exact fun _ _ _ h => h
  case hw3 => rfl
  case hy3 =>
    intro w' hSw
    obtain ⟨y1, y2, y3⟩ := hSw
    go_simp
    try with_reducible rfl
  try simp only [Act.put, List.setIfInBounds_toArray, List.set_cons_zero, List.set_cons_succ]
  refine wpAnyH_take (i := 3) (oi := ?oi4) (v := ?v4) ?hi4 (by kernel_rfl) (by kernel_rfl) (by kernel_rfl) ?hQ4 (Or.inl ⟨?hw4, ?hy4⟩) hHeld ?rest4
  case hi4 => simp only [List.getElem?_toArray, List.getElem?_cons_succ, List.getElem?_cons_zero]; rfl
  case hQ4 => exact fun _ _ _ h => h
  case hw4 => rfl
  case hy4 =>
    intro w' hSw
    obtain ⟨y1, y2, y3⟩ := hSw
    go_simp
    try with_reducible rfl
  try simp only [Act.put, List.setIfInBounds_toArray, List.set_cons_zero, List.set_cons_succ]
  refine wpAnyH_take (i := 4) (oi := ?oi5) (v := ?v5) ?hi5 (by kernel_rfl) (by kernel_rfl) (by kernel_rfl) ?hQ5 (Or.inl ⟨?hw5, ?hy5⟩) hHeld ?rest5
  case hi5 => simp only [List.getElem?_toArray, List.getElem?_cons_succ, List.getElem?_cons_zero]; rfl
  case hQ5 => exact fun _ _ _ h => h
  case hw5 => rfl
  case hy5 =>
    intro w' hSw
    obtain ⟨y1, y2, y3⟩ := hSw
    go_simp
    try with_reducible rfl
  try simp only [Act.put, List.setIfInBounds_toArray, List.set_cons_zero, List.set_cons_succ]
  refine wpAnyH_take (i := 5) (oi := ?oi6) (v := ?v6) ?hi6 (by kernel_rfl) (by kernel_rfl) (by kernel_rfl) ?hQ6 (Or.inl ⟨?hw6, ?hy6⟩) hHeld ?rest6
  case hi6 => simp only [List.getElem?_toArray, List.getElem?_cons_succ, List.getElem?_cons_zero]; rfl
  case hQ6 => exact fun _ _ _ h => h
  case hw6 => rfl
  case hy6 =>
    intro w' hSw
    obtain ⟨y1, y2, y3⟩ := hSw
    go_simp
    try with_reducible rfl
  try simp only [Act.put, List.setIfInBounds_toArray, List.set_cons_zero, List.set_cons_succ]
  refine wpAnyH_take (i := 6) (oi := ?oi7) (v := ?v7) ?hi7 (by kernel_rfl) (by kernel_rfl) (by kernel_rfl) ?hQ7 (Or.inl ⟨?hw7, ?hy7⟩) hHeld ?rest7
  case hi7 => simp only [List.getElem?_toArray, List.getElem?_cons_succ, List.getElem?_cons_zero]; rfl
  case hQ7 => exact fun _ _ _ h => h
  case hw7 => rfl
  case hy7 =>
    intro w' hSw
    obtain ⟨y1, y2, y3⟩ := hSw
    go_simp
    try with_reducible rfl
  try simp only [Act.put, List.setIfInBounds_toArray, List.set_cons_zero, List.set_cons_succ]
  refine wpAnyH_take (i := 7) (oi := ?oi8) (v := ?v8) ?hi8 (by kernel_rfl) (by kernel_rfl) (by kernel_rfl) ?hQ8 (Or.inl ⟨?hw8, ?hy8⟩) hHeld ?rest8
  case hi8 => simp only [List.getElem?_toArray, List.getElem?_cons_succ, List.getElem?_cons_zero]; rfl
  case hQ8 => exact fun _ _ _ h => h
  case hw8 => rfl
  case hy8 =>
    intro w' hSw
    obtain ⟨y1, y2, y3⟩ := hSw
    go_simp
    try with_reducible rfl
  try simp only [Act.put, List.setIfInBounds_toArray, List.set_cons_zero, List.set_cons_succ]
  refine wpAnyH_take (i := 8) (oi := ?oi9) (v := ?v9) ?hi9 (by kernel_rfl) (by kernel_rfl) (by kernel_rfl) ?hQ9 (Or.inl ⟨?hw9, ?hy9⟩) hHeld ?rest9
  case hi9 => simp only [List.getElem?_toArray, List.getElem?_cons_succ, List.getElem?_cons_zero]; rfl
  case hQ9 => exact fun _ _ _ h => h
  case hw9 => rfl
  case hy9 =>
    intro w' hSw
    obtain ⟨y1, y2, y3⟩ := hSw
    go_simp
    try with_reducible rfl
  try simp only [Act.put, List.setIfInBounds_toArray, List.set_cons_zero, List.set_cons_succ]
  refine wpAnyH_take (i := 9) (oi := ?oi10) (v := ?v10) ?hi10 (by kernel_rfl) (by kernel_rfl) (by kernel_rfl) ?hQ10 (Or.inl ⟨?hw10, ?hy10⟩) hHeld ?rest10
  case hi10 => simp only [List.getElem?_toArray, List.getElem?_cons_succ, List.getElem?_cons_zero]; rfl
  case hQ10 => exact fun _ _ _ h => h
  case hw10 => rfl
  case hy10 =>
    intro w' hSw
    obtain ⟨y1, y2, y3⟩ := hSw
    go_simp
    try with_reducible rfl
  try simp only [Act.put, List.setIfInBounds_toArray, List.set_cons_zero, List.set_cons_succ]
  refine wpAnyH_take (i := 10) (oi := ?oi11) (v := ?v11) ?hi11 (by kernel_rfl) (by kernel_rfl) (by kernel_rfl) ?hQ11 (Or.inl ⟨?hw11, ?hy11⟩) hHeld ?rest11
  case hi11 => simp only [List.getElem?_toArray, List.getElem?_cons_succ, List.getElem?_cons_zero]; rfl
  case hQ11 => exact fun _ _ _ h => h
  case hw11 => rfl
  case hy11 =>
    intro w' hSw
    obtain ⟨y1, y2, y3⟩ := hSw
    go_simp
    try with_reducible rfl
  try simp only [Act.put, List.setIfInBounds_toArray, List.set_cons_zero, List.set_cons_succ]
  refine wpAnyH_take (i := 11) (oi := ?oi12) (v := ?v12) ?hi12 (by kernel_rfl) (by kernel_rfl) (by kernel_rfl) ?hQ12 (Or.inl ⟨?hw12, ?hy12⟩) hHeld ?rest12
  case hi12 => simp only [List.getElem?_toArray, List.getElem?_cons_succ, List.getElem?_cons_zero]; rfl
  case hQ12 => exact fun _ _ _ h => h
  case hw12 => rfl
  case hy12 =>
    intro w' hSw
    obtain ⟨y1, y2, y3⟩ := hSw
    go_simp
    try with_reducible rfl
  try simp only [Act.put, List.setIfInBounds_toArray, List.set_cons_zero, List.set_cons_succ]
  refine wpAnyH_take (i := 12) (oi := ?oi13) (v := ?v13) ?hi13 (by kernel_rfl) (by kernel_rfl) (by kernel_rfl) ?hQ13 (Or.inl ⟨?hw13, ?hy13⟩) hHeld ?rest13
  case hi13 => simp only [List.getElem?_toArray, List.getElem?_cons_succ, List.getElem?_cons_zero]; rfl
  case hQ13 => exact fun _ _ _ h => h
  case hw13 => rfl
  case hy13 =>
    intro w' hSw
    obtain ⟨y1, y2, y3⟩ := hSw
    go_simp
    try with_reducible rfl
  try simp only [Act.put, List.setIfInBounds_toArray, List.set_cons_zero, List.set_cons_succ]
  refine wpAnyH_take (i := 14) (oi := ?oi14) (v := ?v14) ?hi14 (by kernel_rfl) (by kernel_rfl) (by kernel_rfl) ?hQ14 (Or.inl ⟨?hw14, ?hy14⟩) hHeld ?rest14
  case hi14 => simp only [List.getElem?_toArray, List.getElem?_cons_succ, List.getElem?_cons_zero]; rfl
  case hQ14 => exact fun _ _ _ h => h
  case hw14 => rfl
  case hy14 =>
    intro w' hSw
    obtain ⟨y1, y2, y3⟩ := hSw
    go_simp
    try with_reducible rfl
  try simp only [Act.put, List.setIfInBounds_toArray, List.set_cons_zero, List.set_cons_succ]
  refine wpAnyH_take (i := 15) (oi := ?oi15) (v := ?v15) ?hi15 (by kernel_rfl) (by kernel_rfl) (by kernel_rfl) ?hQ15 (Or.inl ⟨?hw15, ?hy15⟩) hHeld ?rest15
  case hi15 => simp only [List.getElem?_toArray, List.getElem?_cons_succ, List.getElem?_cons_zero]; rfl
  case hQ15 => exact fun _ _ _ h => h
  case hw15 => rfl
  case hy15 =>
    intro w' hSw
    obtain ⟨y1, y2, y3⟩ := hSw
    go_simp
    try with_reducible rfl
  try simp only [Act.put, List.setIfInBounds_toArray, List.set_cons_zero, List.set_cons_succ]
  refine wpAnyH_take (i := 16) (oi := ?oi16) (v := ?v16) ?hi16 (by kernel_rfl) (by kernel_rfl) (by kernel_rfl) ?hQ16 (Or.inl ⟨?hw16, ?hy16⟩) hHeld ?rest16
  case hi16 => simp only [List.getElem?_toArray, List.getElem?_cons_succ, List.getElem?_cons_zero]; rfl
  case hQ16 => exact fun _ _ _ h => h
  case hw16 => rfl
  case hy16 =>
    intro w' hSw
    obtain ⟨y1, y2, y3⟩ := hSw
    go_simp
    try with_reducible rfl
  try simp only [Act.put, List.setIfInBounds_toArray, List.set_cons_zero, List.set_cons_succ]
  refine wpAnyH_take (i := 17) (oi := ?oi17) (v := ?v17) ?hi17 (by kernel_rfl) (by kernel_rfl) (by kernel_rfl) ?hQ17 (Or.inl ⟨?hw17, ?hy17⟩) hHeld ?rest17
  case hi17 => simp only [List.getElem?_toArray, List.getElem?_cons_succ, List.getElem?_cons_zero]; rfl
  case hQ17 => exact fun _ _ _ h => h
  case hw17 => rfl
  case hy17 =>
    intro w' hSw
    obtain ⟨y1, y2, y3⟩ := hSw
    go_simp
    try with_reducible rfl
  try simp only [Act.put, List.setIfInBounds_toArray, List.set_cons_zero, List.set_cons_succ]
  refine wpAnyH_take (i := 18) (oi := ?oi18) (v := ?v18) ?hi18 (by kernel_rfl) (by kernel_rfl) (by kernel_rfl) ?hQ18 (Or.inl ⟨?hw18, ?hy18⟩) hHeld ?rest18
  case hi18 => simp only [List.getElem?_toArray, List.getElem?_cons_succ, List.getElem?_cons_zero]; rfl
  case hQ18 => exact fun _ _ _ h => h
  case hw18 => rfl
  case hy18 =>
    intro w' hSw
    obtain ⟨y1, y2, y3⟩ := hSw
    go_simp
    try with_reducible rfl
  try simp only [Act.put, List.setIfInBounds_toArray, List.set_cons_zero, List.set_cons_succ]
  refine wpAnyH_take (i := 19) (oi := ?oi19) (v := ?v19) ?hi19 (by kernel_rfl) (by kernel_rfl) (by kernel_rfl) ?hQ19 (Or.inl ⟨?hw19, ?hy19⟩) hHeld ?rest19
  case hi19 => simp only [List.getElem?_toArray, List.getElem?_cons_succ, List.getElem?_cons_zero]; rfl
  case hQ19 => exact fun _ _ _ h => h
  case hw19 => rfl
  case hy19 =>
    intro w' hSw
    obtain ⟨y1, y2, y3⟩ := hSw
    go_simp
    try with_reducible rfl
  try simp only [Act.put, List.setIfInBounds_toArray, List.set_cons_zero, List.set_cons_succ]
  refine wpAnyH_take (i := 20) (oi := ?oi20) (v := ?v20) ?hi20 (by kernel_rfl) (by kernel_rfl) (by kernel_rfl) ?hQ20 (Or.inl ⟨?hw20, ?hy20⟩) hHeld ?rest20
  case hi20 => simp only [List.getElem?_toArray, List.getElem?_cons_succ, List.getElem?_cons_zero]; rfl
  case hQ20 => exact fun _ _ _ h => h
  case hw20 => rfl
  case hy20 =>
    intro w' hSw
    obtain ⟨y1, y2, y3⟩ := hSw
    go_simp
    try with_reducible rfl
  try simp only [Act.put, List.setIfInBounds_toArray, List.set_cons_zero, List.set_cons_succ]
  refine wpAnyH_take (i := 21) (oi := ?oi21) (v := ?v21) ?hi21 (by kernel_rfl) (by kernel_rfl) (by kernel_rfl) ?hQ21 (Or.inl ⟨?hw21, ?hy21⟩) hHeld ?rest21
  case hi21 => simp only [List.getElem?_toArray, List.getElem?_cons_succ, List.getElem?_cons_zero]; rfl
  case hQ21 => exact fun _ _ _ h => h
  case hw21 => rfl
  case hy21 =>
    intro w' hSw
    obtain ⟨y1, y2, y3⟩ := hSw
    go_simp
    try with_reducible rfl
  try simp only [Act.put, List.setIfInBounds_toArray, List.set_cons_zero, List.set_cons_succ]
  refine wpAnyH_ready (rs := [13, 22]) (by kernel_rfl) (by simp) ?_
  refine AllReadyH.cons (o := ?oo22) ?ho22 (fun K hK => ?st22) ?more22
  case ho22 => simp only [List.getElem?_toArray, List.getElem?_cons_succ, List.getElem?_cons_zero]; rfl
  case st22 =>
    rw [if_pos (by rfl)]
    go_simp
    go_at_call 113; refine (HC'.out _ ?_).mono ?_; (first | exact ((Same.refl w).alloc _).drew | exact (((Same.refl w).alloc _).alloc _).drew); rintro e wc ⟨A2, c2, rfl, s2, o2⟩; have hzc : w.heap.size < wc.heap.size := Nat.lt_of_lt_of_le (by simp [heap_drew] <;> omega) s2.size; have S2 : Hid (Same w wc) := (by first | exact ((Same.refl w).alloc _).drew.trans s2 | exact (((Same.refl w).alloc _).alloc _).drew.trans s2); have hnb : Hid ((Value.slice A2 was.length c2).ownBlock ≠ some w.heap.size) := (fun e => by have := (o2.lt _ e).1; simp [heap_drew] at this <;> omega); have hbx : wc.cell? ⟨w.heap.size, 3, none⟩ = some (.string nn) := (s2.cells _ _ (by simp [heap_drew] <;> omega)).trans (by simp [cell_drew]); have HALL : Hid (∀ p v, World.cell? _ p = some v → wc.cell? p = some v) := (fun p v h => (s2.cell (World.block_lt_of_cell? _ _ h)).trans h); have x1c : wc.cell? ⟨g, o + 1, none⟩ = some (.slice (some ⟨ga, 0, none⟩) n ca) := (S2.out.cells _ _ hg).trans x1; have e0c : wc.cell? ⟨ga, a * 6, none⟩ = some (.string nm) := (S2.out.cells _ _ hga).trans e0; have e2c : wc.cell? ⟨ga, a * 6 + 2, none⟩ = some (.slice A0 n0 c0) := (S2.out.cells _ _ hga).trans e2'; have own3 : wc.ownsRow w.heap.size 9 1 (.slice A2 was.length c2) was.length (was.map .string) := o2.mono (Nat.le_of_lt (by simp [heap_drew] <;> omega)); have OWN := Lib.hid own3; clear s2 o2 own3
    try go_simp
    refine hK.out _ _ ?_ (fun hHeld => ?_)
    · show _ ∧ _ ∧ _
      (first | (simp [*]; done) | (simp [*, size_setCell, cell_drew, cell_far, cell_near, cell_new', cell_old]; done) | go_keep)
    clear hK K
    try simp only [Act.put, List.setIfInBounds_toArray, List.set_cons_zero, List.set_cons_succ]
    refine wpAnyH_ready (rs := [22]) (by kernel_rfl) (by simp) ?_
    refine AllReadyH.cons (o := ?oo23) ?ho23 (fun K hK => ?st23) ?more23
    case ho23 => simp only [List.getElem?_toArray, List.getElem?_cons_succ, List.getElem?_cons_zero]; rfl
    case more23 => exact AllReadyH.nil
    rw [if_pos (by rfl)]
    go_simp
    refine hK.out _ _ ?_ (fun hHeld => ?_)
    · show _ ∧ _ ∧ _
      (first | (simp [*]; done) | (simp [*, size_setCell, cell_drew, cell_far, cell_near, cell_new', cell_old]; done) | go_keep)
    clear hK K
    try simp only [Act.put, List.setIfInBounds_toArray, List.set_cons_zero, List.set_cons_succ]
    refine wpAnyH_ready (rs := [23]) (by kernel_rfl) (by simp) ?_
    refine AllReadyH.cons (o := ?oo24) ?ho24 (fun K hK => ?st24) ?more24
    case ho24 => simp only [List.getElem?_toArray, List.getElem?_cons_succ, List.getElem?_cons_zero]; rfl
    case more24 => exact AllReadyH.nil
    refine step_append_any _ rfl (.tmp 19) (.tmp 28) 80 rfl w.heap.size 9 i0 _ 1 16 Tryz.underlying80 hi0 hiz0 hiz1 hiz2 rfl (by decide) (.slice A2 was.length c2) was.length (was.map .string) rfl ?_ _ _ 1 1 [.string nm] rfl (reads_cell ?_) (fun u hu => by simp at hu; subst hu; rfl) BD.out.1 BD.out.2 ?_ ?_; (first | exact OWN.out | exact OWN.out.alloc _); (first | exact HALL.out _ _ (by simp [cell_drew]) | simp [*, cell_drew]); (exact Nat.le_trans (Nat.le_of_lt hzc) (by simp)); intro v1 wa hown1 hg1 hat1; obtain ⟨A3, c3, rfl⟩ := own_val hown1; have hgw : wc.grownBy wa (Value.slice A2 was.length c2).ownBlock := (by first | exact hg1 | exact same_grown ((Same.refl wc).alloc _) hg1); have OWN1 := Lib.hid hown1; have SA : Hid (Same w wa) := Below.grown S2.out hgw S2.out.size (fun k hk => (OWN.out.lt k hk).1); have hza : w.heap.size < wa.heap.size := Nat.lt_of_lt_of_le hzc hgw.size; have hbxa : wa.cell? ⟨w.heap.size, 3, none⟩ = some (.string nn) := (World.cell?_of_block (a := ⟨w.heap.size, 3, none⟩) (hgw.block w.heap.size hzc hnb.out.symm)).trans hbx; have x1a : wa.cell? ⟨g, o + 1, none⟩ = some (.slice (some ⟨ga, 0, none⟩) n ca) := (SA.out.cells _ _ hg).trans x1; have e0a : wa.cell? ⟨ga, a * 6, none⟩ = some (.string nm) := (SA.out.cells _ _ hga).trans e0; have e2a : wa.cell? ⟨ga, a * 6 + 2, none⟩ = some (.slice A0 n0 c0) := (SA.out.cells _ _ hga).trans e2'; have f0a : wa.frozen? ⟨ga, a * 6, none⟩ = false := (SA.out.frees _ _ hga).trans f0; have f2a : wa.frozen? ⟨ga, a * 6 + 2, none⟩ = false := (SA.out.frees _ _ hga).trans f2; have hlta : g < wa.heap.size := Nat.lt_of_lt_of_le hg SA.out.size; have hgaa : ga < wa.heap.size := Nat.lt_of_lt_of_le hga SA.out.size; clear hown1 hg1 hat1 hgw
    refine hK.out _ _ ?_ (fun hHeld => ?_)
    · show _ ∧ _ ∧ _
      (first | (simp [*]; done) | (simp [*, size_setCell, cell_drew, cell_far, cell_near, cell_new', cell_old]; done) | go_keep)
    clear hK K
    try simp only [Act.put, List.setIfInBounds_toArray, List.set_cons_zero, List.set_cons_succ]
    refine wpAnyH_take (i := 24) (oi := ?oi25) (v := ?v25) ?hi25 (by kernel_rfl) (by kernel_rfl) (by kernel_rfl) ?hQ25 (Or.inl ⟨?hw25, ?hy25⟩) hHeld ?rest25
    case hi25 => simp only [List.getElem?_toArray, List.getElem?_cons_succ, List.getElem?_cons_zero]; rfl
    case hQ25 => exact fun _ _ _ h => h
    case hw25 => rfl
    case hy25 =>
      intro w' hSw
      obtain ⟨y1, y2, y3⟩ := hSw
      go_simp
      try with_reducible rfl
    try simp only [Act.put, List.setIfInBounds_toArray, List.set_cons_zero, List.set_cons_succ]
    refine wpAnyH_take (i := 25) (oi := ?oi26) (v := ?v26) ?hi26 (by kernel_rfl) (by kernel_rfl) (by kernel_rfl) ?hQ26 (Or.inl ⟨?hw26, ?hy26⟩) hHeld ?rest26
    case hi26 => simp only [List.getElem?_toArray, List.getElem?_cons_succ, List.getElem?_cons_zero]; rfl
    case hQ26 => exact fun _ _ _ h => h
    case hw26 => rfl
    case hy26 =>
      intro w' hSw
      obtain ⟨y1, y2, y3⟩ := hSw
      go_simp
      try with_reducible rfl
    try simp only [Act.put, List.setIfInBounds_toArray, List.set_cons_zero, List.set_cons_succ]
    refine wpAnyH_done (by kernel_rfl) ?_ _
    refine lastQ_of (o := ?oz27) ?hz27 ?gz27 ?sz27
    case hz27 => simp only [List.getElem?_toArray, List.getElem?_cons_succ, List.getElem?_cons_zero]; rfl
    case gz27 => rfl
    intro K hK
    go_simp
    refine hK.out _ _ ?_
    clear hK K
    try simp only [Act.put, List.setIfInBounds_toArray, List.set_cons_zero, List.set_cons_succ]
    go_wp2
    go_region_held3 (fun w' => w'.cell? ⟨g, o + 1, none⟩ = some (.slice (some ⟨ga, 0, none⟩) n ca) ∧ w'.cell? ⟨w.heap.size, 3, none⟩ = some (.string nn)) (first | (simp [*]; done) | ((repeat' apply And.intro) <;> (first | (simp [*]; done) | (simp [*, size_setCell, cell_drew, cell_far, cell_near, cell_new', cell_old]; done) | go_keep))) (fail)
    go_wp2
    go_end0
    refine ⟨A3, c3, wa, rfl, ?_, SA.out, rfl⟩
    have := OWN1.out
    rw [List.map_append]
    exact this
  refine AllReadyH.cons (o := ?oo28) ?ho28 (fun K hK => ?st28) ?more28
  case ho28 => simp only [List.getElem?_toArray, List.getElem?_cons_succ, List.getElem?_cons_zero]; rfl
  case more28 => exact AllReadyH.nil
  case st28 =>
    rw [if_pos (by rfl)]
    go_simp
    refine hK.out _ _ ?_ (fun hHeld => ?_)
    · show _ ∧ _ ∧ _
      (first | (simp [*]; done) | (simp [*, size_setCell, cell_drew, cell_far, cell_near, cell_new', cell_old]; done) | go_keep)
    clear hK K
    try simp only [Act.put, List.setIfInBounds_toArray, List.set_cons_zero, List.set_cons_succ]
    refine wpAnyH_ready (rs := [13]) (by kernel_rfl) (by simp) ?_
    refine AllReadyH.cons (o := ?oo29) ?ho29 (fun K hK => ?st29) ?more29
    case ho29 => simp only [List.getElem?_toArray, List.getElem?_cons_succ, List.getElem?_cons_zero]; rfl
    case more29 => exact AllReadyH.nil
    rw [if_pos (by rfl)]
    go_simp
    go_at_call 113; refine (HC'.out _ ?_).mono ?_; (first | exact ((Same.refl w).alloc _).drew | exact (((Same.refl w).alloc _).alloc _).drew); rintro e wc ⟨A2, c2, rfl, s2, o2⟩; have hzc : w.heap.size < wc.heap.size := Nat.lt_of_lt_of_le (by simp [heap_drew] <;> omega) s2.size; have S2 : Hid (Same w wc) := (by first | exact ((Same.refl w).alloc _).drew.trans s2 | exact (((Same.refl w).alloc _).alloc _).drew.trans s2); have hnb : Hid ((Value.slice A2 was.length c2).ownBlock ≠ some w.heap.size) := (fun e => by have := (o2.lt _ e).1; simp [heap_drew] at this <;> omega); have hbx : wc.cell? ⟨w.heap.size, 3, none⟩ = some (.string nn) := (s2.cells _ _ (by simp [heap_drew] <;> omega)).trans (by simp [cell_drew]); have HALL : Hid (∀ p v, World.cell? _ p = some v → wc.cell? p = some v) := (fun p v h => (s2.cell (World.block_lt_of_cell? _ _ h)).trans h); have x1c : wc.cell? ⟨g, o + 1, none⟩ = some (.slice (some ⟨ga, 0, none⟩) n ca) := (S2.out.cells _ _ hg).trans x1; have e0c : wc.cell? ⟨ga, a * 6, none⟩ = some (.string nm) := (S2.out.cells _ _ hga).trans e0; have e2c : wc.cell? ⟨ga, a * 6 + 2, none⟩ = some (.slice A0 n0 c0) := (S2.out.cells _ _ hga).trans e2'; have own3 : wc.ownsRow w.heap.size 9 1 (.slice A2 was.length c2) was.length (was.map .string) := o2.mono (Nat.le_of_lt (by simp [heap_drew] <;> omega)); have OWN := Lib.hid own3; clear s2 o2 own3
    try go_simp
    refine hK.out _ _ ?_ (fun hHeld => ?_)
    · show _ ∧ _ ∧ _
      (first | (simp [*]; done) | (simp [*, size_setCell, cell_drew, cell_far, cell_near, cell_new', cell_old]; done) | go_keep)
    clear hK K
    try simp only [Act.put, List.setIfInBounds_toArray, List.set_cons_zero, List.set_cons_succ]
    refine wpAnyH_ready (rs := [23]) (by kernel_rfl) (by simp) ?_
    refine AllReadyH.cons (o := ?oo30) ?ho30 (fun K hK => ?st30) ?more30
    case ho30 => simp only [List.getElem?_toArray, List.getElem?_cons_succ, List.getElem?_cons_zero]; rfl
    case more30 => exact AllReadyH.nil
    refine step_append_any _ rfl (.tmp 19) (.tmp 28) 80 rfl w.heap.size 9 i0 _ 1 16 Tryz.underlying80 hi0 hiz0 hiz1 hiz2 rfl (by decide) (.slice A2 was.length c2) was.length (was.map .string) rfl ?_ _ _ 1 1 [.string nm] rfl (reads_cell ?_) (fun u hu => by simp at hu; subst hu; rfl) BD.out.1 BD.out.2 ?_ ?_; (first | exact OWN.out | exact OWN.out.alloc _); (first | exact HALL.out _ _ (by simp [cell_drew]) | simp [*, cell_drew]); (exact Nat.le_trans (Nat.le_of_lt hzc) (by simp)); intro v1 wa hown1 hg1 hat1; obtain ⟨A3, c3, rfl⟩ := own_val hown1; have hgw : wc.grownBy wa (Value.slice A2 was.length c2).ownBlock := (by first | exact hg1 | exact same_grown ((Same.refl wc).alloc _) hg1); have OWN1 := Lib.hid hown1; have SA : Hid (Same w wa) := Below.grown S2.out hgw S2.out.size (fun k hk => (OWN.out.lt k hk).1); have hza : w.heap.size < wa.heap.size := Nat.lt_of_lt_of_le hzc hgw.size; have hbxa : wa.cell? ⟨w.heap.size, 3, none⟩ = some (.string nn) := (World.cell?_of_block (a := ⟨w.heap.size, 3, none⟩) (hgw.block w.heap.size hzc hnb.out.symm)).trans hbx; have x1a : wa.cell? ⟨g, o + 1, none⟩ = some (.slice (some ⟨ga, 0, none⟩) n ca) := (SA.out.cells _ _ hg).trans x1; have e0a : wa.cell? ⟨ga, a * 6, none⟩ = some (.string nm) := (SA.out.cells _ _ hga).trans e0; have e2a : wa.cell? ⟨ga, a * 6 + 2, none⟩ = some (.slice A0 n0 c0) := (SA.out.cells _ _ hga).trans e2'; have f0a : wa.frozen? ⟨ga, a * 6, none⟩ = false := (SA.out.frees _ _ hga).trans f0; have f2a : wa.frozen? ⟨ga, a * 6 + 2, none⟩ = false := (SA.out.frees _ _ hga).trans f2; have hlta : g < wa.heap.size := Nat.lt_of_lt_of_le hg SA.out.size; have hgaa : ga < wa.heap.size := Nat.lt_of_lt_of_le hga SA.out.size; clear hown1 hg1 hat1 hgw
    refine hK.out _ _ ?_ (fun hHeld => ?_)
    · show _ ∧ _ ∧ _
      (first | (simp [*]; done) | (simp [*, size_setCell, cell_drew, cell_far, cell_near, cell_new', cell_old]; done) | go_keep)
    clear hK K
    try simp only [Act.put, List.setIfInBounds_toArray, List.set_cons_zero, List.set_cons_succ]
    refine wpAnyH_take (i := 24) (oi := ?oi31) (v := ?v31) ?hi31 (by kernel_rfl) (by kernel_rfl) (by kernel_rfl) ?hQ31 (Or.inl ⟨?hw31, ?hy31⟩) hHeld ?rest31
    case hi31 => simp only [List.getElem?_toArray, List.getElem?_cons_succ, List.getElem?_cons_zero]; rfl
    case hQ31 => exact fun _ _ _ h => h
    case hw31 => rfl
    case hy31 =>
      intro w' hSw
      obtain ⟨y1, y2, y3⟩ := hSw
      go_simp
      try with_reducible rfl
    try simp only [Act.put, List.setIfInBounds_toArray, List.set_cons_zero, List.set_cons_succ]
    refine wpAnyH_take (i := 25) (oi := ?oi32) (v := ?v32) ?hi32 (by kernel_rfl) (by kernel_rfl) (by kernel_rfl) ?hQ32 (Or.inl ⟨?hw32, ?hy32⟩) hHeld ?rest32
    case hi32 => simp only [List.getElem?_toArray, List.getElem?_cons_succ, List.getElem?_cons_zero]; rfl
    case hQ32 => exact fun _ _ _ h => h
    case hw32 => rfl
    case hy32 =>
      intro w' hSw
      obtain ⟨y1, y2, y3⟩ := hSw
      go_simp
      try with_reducible rfl
    try simp only [Act.put, List.setIfInBounds_toArray, List.set_cons_zero, List.set_cons_succ]
    refine wpAnyH_done (by kernel_rfl) ?_ _
    refine lastQ_of (o := ?oz33) ?hz33 ?gz33 ?sz33
    case hz33 => simp only [List.getElem?_toArray, List.getElem?_cons_succ, List.getElem?_cons_zero]; rfl
    case gz33 => rfl
    intro K hK
    go_simp
    refine hK.out _ _ ?_
    clear hK K
    try simp only [Act.put, List.setIfInBounds_toArray, List.set_cons_zero, List.set_cons_succ]
    go_wp2
    go_region_held3 (fun w' => w'.cell? ⟨g, o + 1, none⟩ = some (.slice (some ⟨ga, 0, none⟩) n ca) ∧ w'.cell? ⟨w.heap.size, 3, none⟩ = some (.string nn)) (first | (simp [*]; done) | ((repeat' apply And.intro) <;> (first | (simp [*]; done) | (simp [*, size_setCell, cell_drew, cell_far, cell_near, cell_new', cell_old]; done) | go_keep))) (fail)
    go_wp2
    go_end0
    refine ⟨A3, c3, wa, rfl, ?_, SA.out, rfl⟩
    have := OWN1.out
    rw [List.map_append]
    exact this
end Go.Proofs.YtfifnemnihcijaaGreatDoor
